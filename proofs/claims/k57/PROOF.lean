import PyProof.Rows.All
import Wide.All
import OpenK.AllK
import Wide.FinOn
import HandS.ForMost
import HandS.Walk
import HandS.TupAny
import HandS.TupMul
import HandS.TupLe
import HandS.Deep
import HandS.IsInst
import HandS.Style
import HandS.Flow
import HandS.Zip
import HandS.Conv
import KE.SortData
import KE.DataCmp
import KE.KDictPairs
import HandS.More
import HandS.DictComp
import HandS.ListItems
import KE.GoesNew
import KE.GoesEnum
import HandS.Small
import KE.KItemsList
import PySem.Challenge.RW_hoteldays_k57_whole_connections_that_are
set_option Elab.async false
set_option linter.all false
set_option maxRecDepth 100000
/-! PV1: a small language of pure data over the hand layer: values, store, terms, their evaluator, the look that holds a term against the text. -/
namespace PV
open PySem PySem.Spec PyProof.Rows L2

/-! ### values and store -/
inductive A where
  | d (x : PyData) | obj (k : Nat) | pr (a b : A) | seq (ns : List Int)
inductive Ob where
  | lst (xs : List PyData) (fz : Bool)
  | dic (kvs : List (PyData × PyData)) (fz lk : Bool)
  | ins (c : Nat) (fs : List (Str × A))
abbrev Sto := List Ob
abbrev En := List (Option A)
abbrev Fs := List A → Sto → Option (A × Sto)
def Ob.flat : Ob → Bool
  | .ins _ fs => fs.all fun p => match p.2 with | .d _ => true | _ => false
  | _ => true
/-- behind a call that hands back plain data: what it made for itself is forgotten -/
def gc (r : A) (S1 S2 : Sto) : Sto := match r with
  | .d _ => if (S2.take S1.length).all Ob.flat = true then S2.take S1.length else S2
  | _ => S2
def deref (S : Sto) : A → Option PyData
  | .d x => some x
  | .obj k => match S[k]? with
    | some (.lst xs _) => some (.list xs)
    | some (.dic kvs _ _) => some (.dict kvs)
    | _ => none
  | _ => none
def frz (S : Sto) : A → Option (PyData × Sto)
  | .d x => some (x, S)
  | .obj k => match S[k]? with
    | some (.lst xs _) => some (.list xs, S.set k (.lst xs true))
    | some (.dic kvs _ lk) => some (.dict kvs, S.set k (.dic kvs true lk))
    | _ => none
  | _ => none
def frzAll : List A → Sto → Option (List PyData × Sto)
  | [], S => some ([], S)
  | a :: as, S => match frz S a with
    | none => none
    | some (x, S1) => match frzAll as S1 with
      | none => none
      | some (xs, S2) => some (x :: xs, S2)
/-- its truth -/
def truD : PyData → Option Bool
  | .none => some false
  | .bool b => some b
  | .int i => some (i != 0)
  | .str x => if x.length ≤ 16777216 then some (x.length != 0) else none
  | .list xs => some (!xs.isEmpty)
  | .tuple xs => some (!xs.isEmpty)
  | .dict _ => none
def tru (S : Sto) (a : A) : Option Bool := (deref S a).bind truD

/-! ### terms -/
inductive Bl where
  | len | sum | mn | mx | any | all | sorted | list | tuple | int | abs | dict
  deriving DecidableEq
inductive Mth where
  | count | index
  deriving DecidableEq
inductive Ty where
  | bool | int | str | list | tuple
  deriving DecidableEq
mutual
inductive Ex where
  | var (i : Nat) | cst (c : PyData) | glb (i : Nat)
  | tup (es : Exs) | lst (es : Exs) | fresh (e : Ex)
  | bin (o : Operator) (a b : Ex) | neg (a : Ex)
  | cmp (o : CmpOp) (a b : Ex) | chn (o p : CmpOp) (a b c : Ex)
  | and (es : Exs) | or (es : Exs) | not (a : Ex) | ite (t a b : Ex)
  | ix (a i : Ex) | slc (a : Ex) (lo hi : Exs)
  | call (f : Nat) (es : Exs) | blt (b : Bl) (es : Exs) | isi (a : Ex) (ts : List Ty)
  | comp (t : Tg) (it : Itx) (ifs : Exs) (e : Ex)
  | lrg (a : Ex) | lrg2 (a b : Ex) | mth (m : Mth) (o a : Ex)
  | dnew | d1 (k e : Ex) | dget (o k : Ex) | dgetd (o k f : Ex) | dpop (o k : Ex)
  | dcomp (t : Tg) (it : Itx) (ifs : Exs) (k e : Ex) | its (srt : Bool) (o : Ex)
inductive Exs where
  | nil | cons (e : Ex) (es : Exs)
inductive Tg where
  | nm (i : Nat) | tp (ts : Tgs) | sub (o i : Ex)
inductive Tgs where
  | nil | cons (t : Tg) (ts : Tgs)
inductive Itx where
  | seq (e : Ex) | rng (a : Ex) | rng2 (a b : Ex) | enm (e : Ex) | zip (a b : Ex) | itm (e : Ex)
end
mutual
inductive Sx where
  | asg (t : Tg) (e : Ex) | par (ts : Tgs) (es : Exs)
  | app (o e : Ex) | ifs (t : Ex) (a b : Ss)
  | for_ (t : Tg) (it : Itx) (b : Ss) (wl : List Nat) | whl (n : Nat) (t : Ex) (b : Ss) (wl : List Nat)
  | ret (e : Ex) | retO (e : Ex) | ret0 | exp (e : Ex) | brk | cnt | pas
inductive Ss where
  | nil | cons (s : Sx) (ss : Ss)
end
inductive Fl where
  | nx | rt (a : A) | bk | ct

/-! ### dicts -/
def keyD : PyData → Option Key
  | .int i => some (.inl i)
  | .str x => some (.inr x)
  | _ => none
def getP (kvs : List (PyData × PyData)) (x : PyData) : Option PyData := (kvs.find? fun p => decide (keyD p.1 = keyD x)).map (·.2)
def putP (kvs : List (PyData × PyData)) (x v : PyData) : List (PyData × PyData) :=
  if (kvs.any fun p => decide (keyD p.1 = keyD x)) = true then kvs.map (fun p => if keyD p.1 = keyD x then (p.1, v) else p) else kvs ++ [(x, v)]
def dropP (kvs : List (PyData × PyData)) (x : PyData) : List (PyData × PyData) := kvs.filter fun p => decide (keyD p.1 ≠ keyD x)
def mergeP (kvs more : List (PyData × PyData)) : List (PyData × PyData) := more.foldl (fun acc p => putP acc p.1 p.2) kvs
/-- what it holds at a key -/
def getdD : PyData → PyData → Option (Option PyData)
  | .dict kvs, x => if (keyD x).isSome = true then some (getP kvs x) else none
  | _, _ => none
/-- pairs with keys -/
def pairsD : List PyData → Option (List (PyData × PyData))
  | [] => some []
  | .tuple [k, v] :: r => if (keyD k).isSome = true then (pairsD r).map ((k, v) :: ·) else none
  | _ => none
/-- its pairs as tuples -/
def itmD (kvs : List (PyData × PyData)) : List PyData := kvs.map fun p => .tuple [p.1, p.2]

/-! ### what the operations do -/
mutual
def noDic : PyData → Bool
  | .list xs => noDics xs
  | .tuple xs => noDics xs
  | .dict _ => false
  | _ => true
def noDics : List PyData → Bool
  | [] => true
  | x :: xs => noDic x && noDics xs
end
def atomD : PyData → Bool
  | .none => true
  | .bool _ => true
  | .int _ => true
  | .str _ => true
  | _ => false
def okEq (x y : PyData) : Bool := (atomD x && atomD y) || (SeqAt.shaped x && SeqAt.shaped y)
def eqvD (x y : PyData) : Option Bool := if okEq x y = true then some (PyData.eqv x y) else none
mutual
/-- x < y, of data that are alike -/
def ltB : PyData → PyData → Bool
  | .int a, y => match y with | .int b => decide (a < b) | _ => false
  | .bool a, y => match y with | .bool b => !a && b | _ => false
  | .str a, y => match y with | .str b => decide (a.cps.toList < b.cps.toList) | _ => false
  | .tuple xs, y => match y with | .tuple ys => ltBs xs ys | _ => false
  | .list xs, y => match y with | .list ys => ltBs xs ys | _ => false
  | .none, _ => false
  | .dict _, _ => false
def ltBs : List PyData → List PyData → Bool
  | [], ys => !ys.isEmpty
  | x :: xs, ys => match ys with
    | [] => false
    | y :: ys => if PyData.eqv x y = true then ltBs xs ys else ltB x y
end
def notNone : PyData → Bool
  | .none => false
  | _ => true
def okLt (x y : PyData) : Bool := PySem.W.alike x y && noDic x && noDic y && notNone x && decide (x.depth ≤ 32)
def ltD (x y : PyData) : Option Bool := if okLt x y = true then some (ltB x y) else none
def leD (x y : PyData) : Option Bool := if okLt x y = true ∧ PySem.W.alike y x = true then some (!ltB y x) else none
def gtD (x y : PyData) : Option Bool := if okLt x y = true ∧ PySem.W.alike y x = true then some (ltB y x) else none
def geD (x y : PyData) : Option Bool := if okLt x y = true ∧ PySem.W.alike y x = true then some (!ltB x y) else none
def cutG {α : Type} (xs : List α) (lo hi : Option Int) : List α := (xs.drop (HT.sIx xs.length 0 lo)).take (HT.sIx xs.length xs.length hi - HT.sIx xs.length 0 lo)
def mulOk (i j : Int) : Bool := decide ((-(2 ^ 64) < i ∧ i < 2 ^ 64) ∨ (-(2 ^ 64) < j ∧ j < 2 ^ 64))
def binI (o : Operator) (i j : Int) : Option Int := match o with
  | .Add => some (i + j)
  | .Sub => some (i - j)
  | .Mult => if mulOk i j = true then some (i * j) else none
  | .Mod => if j ≠ 0 then some (i.fmod j) else none
  | .FloorDiv => if j ≠ 0 ∧ j.natAbs < 1073741824 then some (i.fdiv j) else none
  | .Pow => if 0 ≤ j ∧ j ≤ 1000000 ∧ i.natAbs < 2 ^ 64 then some (i ^ j.toNat) else none
  | _ => none
def binD (o : Operator) : PyData → PyData → Option PyData
  | .int i, .int j => (binI o i j).map .int
  | .str x, .str y => if o = .Add ∧ x.length + y.length ≤ 16777216 then some (.str (x ++ y)) else none
  | .list xs, .list ys => if o = .Add ∧ xs.length + ys.length ≤ 16777216 then some (.list (xs ++ ys)) else none
  | .tuple xs, .tuple ys => if o = .Add ∧ xs.length + ys.length ≤ 16777216 then some (.tuple (xs ++ ys)) else none
  | .list xs, .int k => if o = .Mult ∧ -(2 ^ 63) ≤ k ∧ k < 2 ^ 63 ∧ xs.length * k.toNat ≤ 16777216 then some (.list (List.replicate k.toNat xs).flatten) else none
  | .tuple xs, .int k => if o = .Mult ∧ xs ≠ [] ∧ 2 ≤ k ∧ k ≤ 1000 ∧ xs.length ≤ 1000 then some (.tuple (List.replicate k.toNat xs).flatten) else none
  | _, _ => none
def binF (o : Operator) (a b : A) (S : Sto) : Option A := match deref S a, deref S b with
  | some x, some y => (binD o x y).map .d
  | _, _ => none
def okIn (x : PyData) (ds : List PyData) : Bool := (atomD x && ds.all atomD) || (SeqAt.shaped x && SeqAt.shaped (.list ds))
def inD (x : PyData) : PyData → Option Bool
  | .list ds => if okIn x ds = true then some (ds.any fun z => PyData.eqv z x) else none
  | .tuple ds => if okIn x ds = true then some (ds.any fun z => PyData.eqv z x) else none
  | .str z => match x with | .str y => some (!(Builtin.Str.occurrences z y 0 z.length 1).isEmpty) | _ => none
  | .dict kvs => if (keyD x).isSome = true then some (getP kvs x).isSome else none
  | _ => none
def isD : A → PyData → Option Bool
  | .d .none, .none => some true
  | .d (.bool a), .bool b => some (decide (a = b))
  | _, .none => some false
  | _, _ => none
def cmpD (o : CmpOp) (x y : PyData) : Option Bool := match o with
  | .Eq => eqvD x y
  | .NotEq => (eqvD x y).map (!·)
  | .Lt => ltD x y
  | .LtE => match x, y with | .int i, .int j => some (decide (i ≤ j)) | x, y => leD x y
  | .Gt => match x, y with | .int i, .int j => some (decide (j < i)) | x, y => gtD x y
  | .GtE => match x, y with | .int i, .int j => some (decide (j ≤ i)) | x, y => geD x y
  | .In => inD x y
  | .NotIn => (inD x y).map (!·)
  | _ => none
def cmpF (o : CmpOp) (a b : A) (S : Sto) : Option Bool := match o with
  | .Is => match b with | .d y => isD a y | _ => none
  | .IsNot => match b with | .d y => (isD a y).map (!·) | _ => none
  | o => match deref S a, deref S b with
    | some x, some y => cmpD o x y
    | _, _ => none
def ixD : PyData → PyData → Option PyData
  | .list xs, .int i => atI xs i
  | .tuple xs, .int i => atI xs i
  | .str z, .int i => if z.length ≤ 16777216 then (atI z.cps.toList i).map fun c => .str ⟨#[c]⟩ else none
  | .dict kvs, x => if (keyD x).isSome = true then getP kvs x else none
  | _, _ => none
def ixF (a b : A) (S : Sto) : Option A := match a, b with
  | .pr x y, .d (.int i) => if i = 0 then some x else if i = 1 then some y else none
  | a, b => match deref S a, deref S b with
    | some x, some i => (ixD x i).map .d
    | _, _ => none
def slcD (x : PyData) (lo hi : Option Int) : Option PyData := match x with
  | .list xs => some (.list (cutG xs lo hi))
  | .tuple xs => some (.tuple (cutG xs lo hi))
  | .str z => if z.length ≤ 16777216 then some (.str (cutS z lo hi)) else none
  | _ => none
def intsD : List PyData → Option (List Int)
  | [] => some []
  | .int i :: r => (intsD r).map (i :: ·)
  | _ => none
def boolsD : List PyData → Option (List Bool)
  | [] => some []
  | .bool b :: r => (boolsD r).map (b :: ·)
  | _ => none
/-- the first of the least: min(xs) -/
def minD : PyData → List PyData → Option PyData
  | m, [] => some m
  | m, x :: xs => match ltD x m with
    | none => none
    | some true => minD x xs
    | some false => minD m xs
/-- the greatest of ints -/
def maxI : Int → List Int → Int
  | m, [] => m
  | m, x :: xs => maxI (if m < x then x else m) xs
def alikeRow : List PyData → Bool
  | [] => true
  | x :: xs => xs.all (fun y => PySem.W.alike x y && PySem.W.alike y x) && PySem.W.alike x x && alikeRow xs
def isTupD : PyData → Bool
  | .tuple xs => !xs.isEmpty
  | _ => false
def noTupD : PyData → Bool
  | .tuple _ => false
  | .none => false
  | _ => true
def sortD (xs : List PyData) : Option (List PyData) := if alikeRow xs = true ∧ noDics xs = true ∧ (xs.all isTupD || xs.all noTupD) = true ∧ (xs.all fun x => decide (x.depth ≤ 32)) = true then some (xs.mergeSort fun x y => !ltB y x) else none
def lenD : PyData → Option Int
  | .list xs => some xs.length
  | .tuple xs => some xs.length
  | .str z => if z.length ≤ 16777216 then some z.length else none
  | .dict kvs => some kvs.length
  | _ => none
/-- all texts, or all ints -/
def strKs : List PyData → Bool
  | [] => true
  | .str _ :: r => strKs r
  | _ => false
def intKs : List PyData → Bool
  | [] => true
  | .int _ :: r => intKs r
  | _ => false
def bltD (b : Bl) (x : PyData) : Option PyData := match b with
  | .len => (lenD x).map .int
  | .sum => match x with
    | .list xs => (intsD xs).map fun ns => .int ns.sum
    | .tuple xs => (intsD xs).map fun ns => .int ns.sum
    | _ => none
  | .mn => match x with
    | .list (x :: xs) => minD x xs
    | _ => none
  | .mx => match x with
    | .list xs => match intsD xs with
      | some (n :: ns) => some (.int (maxI n ns))
      | _ => none
    | _ => none
  | .any => match x with
    | .list xs => (boolsD xs).map fun bs => .bool (bs.any id)
    | _ => none
  | .all => match x with
    | .list xs => (boolsD xs).map fun bs => .bool (bs.all id)
    | _ => none
  | .sorted => match x with
    | .list xs => (sortD xs).map .list
    | .dict kvs => if (strKs (kvs.map (·.1)) || intKs (kvs.map (·.1))) = true ∧ kvs.length < 64 then (sortD (kvs.map (·.1))).map .list else none
    | _ => none
  | .list => match x with
    | .list xs => some (.list xs)
    | .tuple xs => some (.list xs)
    | .dict kvs => some (.list (kvs.map (·.1)))
    | _ => none
  | .dict => match x with
    | .list xs => (pairsD xs).map fun kvs => .dict (mergeP [] kvs)
    | .tuple xs => (pairsD xs).map fun kvs => .dict (mergeP [] kvs)
    | .dict kvs => some (.dict kvs)
    | _ => none
  | .tuple => match x with
    | .list xs => some (.tuple xs)
    | .tuple xs => some (.tuple xs)
    | _ => none
  | .int => match x with
    | .int i => some (.int i)
    | _ => none
  | .abs => match x with
    | .int i => some (.int (if i < 0 then -i else i))
    | _ => none
def bltD2 (b : Bl) (x y : PyData) : Option PyData := match b with
  | .mn => minD x [y]
  | .mx => match x, y with
    | .int i, .int j => some (.int (if j > i then j else i))
    | _, _ => none
  | _ => none
def bltF (b : Bl) (as : List A) (S : Sto) : Option A := match as with
  | [a] => match a with
    | .seq ns => match b with
      | .list => some (.d (.list (ns.map .int)))
      | _ => none
    | a => ((deref S a).bind (bltD b)).map .d
  | [.d x, .d y] => (bltD2 b x y).map .d
  | _ => none
def typeOk (x : PyData) (t : Ty) : Bool := match x with
  | .none => false
  | .bool _ => t == .bool || t == .int
  | .int _ => t == .int
  | .str _ => t == .str
  | .list _ => t == .list
  | .tuple _ => t == .tuple
  | .dict _ => false
def asInt : A → Option Int
  | .d (.int i) => some i
  | _ => none
/-- o[i] = v -/
def setF (o i v : A) (S : Sto) : Option Sto := match o with
  | .obj k => match S[k]? with
    | some (.lst xs false) => match i with
      | .d (.int j) => match frz S v with
        | some (x, S1) => match ixN xs.length j, S1[k]? with
          | some n, some (.lst _ false) => some (S1.set k (.lst (xs.set n x) false))
          | _, _ => none
        | none => none
      | _ => none
    | some (.dic _ _ _) => match i with
      | .d y => match frz S v with
        | some (x, S1) => match S1[k]? with
          | some (.dic kvs false false) => if (keyD y).isSome = true ∧ kvs.length < 16777216 then some (S1.set k (.dic (putP kvs y x) false false)) else none
          | _ => none
        | none => none
      | _ => none
    | _ => none
  | _ => none
/-- o.pop(x) -/
def dpopF (o : A) (x : PyData) (S : Sto) : Option (PyData × Sto) := match o with
  | .obj k => match S[k]? with
    | some (.dic kvs false false) => if (keyD x).isSome = true then (getP kvs x).map fun v => (v, S.set k (.dic (dropP kvs x) false false)) else none
    | _ => none
  | _ => none
/-- a dict that is walked is locked meanwhile: what it holds, what is to be unlocked behind the walk -/
def lkF (a : A) (S : Sto) : Option (List (PyData × PyData) × Option Nat × Sto) := match a with
  | .d (.dict kvs) => some (kvs, none, S)
  | .obj k => match S[k]? with
    | some (.dic kvs fz lk) => if fz = true ∨ lk = true then some (kvs, none, S) else some (kvs, some k, S.set k (.dic kvs false true))
    | _ => none
  | _ => none
def unlF (w : Option Nat) (S : Sto) : Sto := match w with
  | none => S
  | some k => match S[k]? with
    | some (.dic kvs fz _) => S.set k (.dic kvs fz false)
    | _ => S
def appF (o v : A) (S : Sto) : Option Sto := match o with
  | .obj k => match frz S v with
    | some (x, S1) => match S1[k]? with
      | some (.lst xs false) => if xs.length < 16777216 then some (S1.set k (.lst (xs ++ [x]) false)) else none
      | _ => none
    | none => none
  | _ => none
def newOb : PyData → Option Ob
  | .list xs => some (.lst xs false)
  | .dict kvs => some (.dic kvs false false)
  | _ => none

/-- o.count(y), o.index(y) of a list -/
def mthD (m : Mth) : PyData → PyData → Option Int
  | .list xs, y => if SeqAt.shaped (.list xs) = true ∧ SeqAt.shaped y = true then (match m with
    | .count => some (xs.countP fun z => PyData.eqv z y : Nat)
    | .index => (xs.findIdx? fun z => PyData.eqv z y).map fun (j : Nat) => (j : Int)) else none
  | _, _ => none
/-! ### loops -/
def compL (f : PyData → Sto → Option (Option PyData × Sto)) : List PyData → Sto → Option (List PyData × Sto)
  | [], S => some ([], S)
  | x :: xs, S => match f x S with
    | none => none
    | some (o, S1) => match compL f xs S1 with
      | none => none
      | some (ys, S2) => some ((match o with | some y => y :: ys | none => ys), S2)
/-- a dict is made pair by pair -/
def compDL (f : PyData → Sto → Option (Option (PyData × PyData) × Sto)) : List PyData → List (PyData × PyData) → Sto → Option (List (PyData × PyData) × Sto)
  | [], acc, S => some (acc, S)
  | x :: xs, acc, S => match f x S with
    | none => none
    | some (none, S1) => compDL f xs acc S1
    | some (some p, S1) => if (keyD p.1).isSome = true ∧ acc.length < 16777216 then compDL f xs (putP acc p.1 p.2) S1 else none
def wipeE (env : En) : List Nat → En
  | [] => env
  | i :: is => (wipeE env is).set i none
def forL (body : PyData → En → Sto → Option (Fl × En × Sto)) : List PyData → En → Sto → Option (Fl × En × Sto)
  | [], env, S => some (.nx, env, S)
  | x :: xs, env, S => match body x env S with
    | some (.nx, env', S') => forL body xs env' S'
    | some (.ct, env', S') => forL body xs env' S'
    | some (.bk, env', S') => some (.nx, env', S')
    | some (.rt a, env', S') => some (.rt a, env', S')
    | none => none
def whlL (test : En → Sto → Option (Bool × Sto)) (body : En → Sto → Option (Fl × En × Sto)) : Nat → En → Sto → Option (Fl × En × Sto)
  | 0, _, _ => none
  | n + 1, env, S => match test env S with
    | some (false, S1) => some (.nx, env, S1)
    | some (true, S1) => match body env S1 with
      | some (.nx, env', S') => whlL test body n env' S'
      | some (.ct, env', S') => whlL test body n env' S'
      | some (.bk, env', S') => some (.nx, env', S')
      | some (.rt a, env', S') => some (.rt a, env', S')
      | none => none
    | none => none
/-- the items that are walked; an object that has to stay as it is meanwhile -/
def seqF (a : A) (S : Sto) : Option (List PyData × Option Nat) := match a with
  | .d (.list xs) => some (xs, none)
  | .d (.tuple xs) => some (xs, none)
  | .d (.str z) => if z.length ≤ 16777216 then some (z.cps.toList.map fun c => .str ⟨#[c]⟩, none) else none
  | .obj k => match S[k]? with
    | some (.lst xs _) => some (xs, some k)
    | _ => none
  | _ => none
/-- what a walk hands on: a pair that is made for it is not told as a datum -/
def prA : PyData → A
  | .tuple [x, y] => .pr (.d x) (.d y)
  | x => .d x
def itA : Itx → PyData → A
  | .enm _ => prA
  | .zip _ _ => prA
  | .itm _ => prA
  | _ => .d
/-- it stays -/
noncomputable def ckB (w : Option Nat) (S S' : Sto) : Bool := match w with
  | none => true
  | some k => @decide (deref S' (.obj k) = deref S (.obj k)) (Classical.propDecidable _)
/-- a walk's loop, the one that is walked being watched -/
noncomputable def watC {β : Type} (w : Option Nat) (S0 : Sto) (f : PyData → Sto → Option (Option β × Sto)) : PyData → Sto → Option (Option β × Sto) := fun x S => match f x S with
  | none => none
  | some (o, S1) => if ckB w S0 S1 = true then some (o, S1) else none
noncomputable def watF (w : Option Nat) (S0 : Sto) (f : PyData → En → Sto → Option (Fl × En × Sto)) : PyData → En → Sto → Option (Fl × En × Sto) := fun x env S => match f x env S with
  | none => none
  | some (.rt a, e1, S1) => some (.rt a, e1, S1)
  | some (.bk, e1, S1) => some (.bk, e1, S1)
  | some (.nx, e1, S1) => if ckB w S0 S1 = true then some (.nx, e1, S1) else none
  | some (.ct, e1, S1) => if ckB w S0 S1 = true then some (.ct, e1, S1) else none
def rngD (lo : Int) (n : Nat) : List PyData := (List.range n).map fun k => .int (lo + (k : Nat))
def rngF (i j : Int) : Option (List PyData) := if (-(2 ^ 62) ≤ i ∧ i < 2 ^ 62 ∧ -(2 ^ 62) ≤ j ∧ j < 2 ^ 62) ∧ (j - i).toNat ≤ 16777216 then some (rngD i (j - i).toNat) else none
def enmD (xs : List PyData) : List PyData := (List.range xs.length).zipWith (fun k x => .tuple [.int (k : Nat), x]) xs
def zipD (xs ys : List PyData) : List PyData := xs.zipWith (fun x y => .tuple [x, y]) ys

/-! ### the evaluator -/
def Exs.isNil : Exs → Bool
  | .nil => true
  | .cons _ _ => false
def Tgs.len : Tgs → Nat
  | .nil => 0
  | .cons _ ts => ts.len + 1
mutual
def Tg.slots : Tg → List Nat
  | .nm i => [i]
  | .tp ts => ts.slots
  | .sub _ _ => []
def Tgs.slots : Tgs → List Nat
  | .nil => []
  | .cons t ts => t.slots ++ ts.slots
end
noncomputable section
variable (Φ : List Fs) (Γ : List PyData)
mutual
def ev : Ex → En → Sto → Option (A × Sto)
  | .var i, env, S => match env[i]? with
    | some (some a) => some (a, S)
    | _ => none
  | .cst c, _, S => some (.d c, S)
  | .glb i, _, S => match Γ[i]? with
    | some x => some (.d x, S)
    | none => none
  | .tup es, env, S => match evs es env S with
    | none => none
    | some (as, S1) => match frzAll as S1 with
      | some (xs, S2) => some (.d (.tuple xs), S2)
      | none => match as with
        | [a, b] => some (.pr a b, S1)
        | _ => none
  | .lst es, env, S => match evs es env S with
    | none => none
    | some (as, S1) => match frzAll as S1 with
      | some (xs, S2) => some (.d (.list xs), S2)
      | none => none
  | .fresh e, env, S => match ev e env S with
    | some (.d x, S1) => match newOb x with
      | some o => some (.obj S1.length, S1 ++ [o])
      | none => none
    | _ => none
  | .bin o a b, env, S => match ev a env S with
    | none => none
    | some (x, S1) => match ev b env S1 with
      | none => none
      | some (y, S2) => (binF o x y S2).map fun c => (c, S2)
  | .neg a, env, S => match ev a env S with
    | some (.d (.int i), S1) => some (.d (.int (-i)), S1)
    | _ => none
  | .cmp o a b, env, S => match ev a env S with
    | none => none
    | some (x, S1) => match ev b env S1 with
      | none => none
      | some (y, S2) => (cmpF o x y S2).map fun c => (.d (.bool c), S2)
  | .chn o p a b c, env, S => match ev a env S with
    | none => none
    | some (x, S1) => match ev b env S1 with
      | none => none
      | some (y, S2) => match cmpF o x y S2 with
        | none => none
        | some false => some (.d (.bool false), S2)
        | some true => match ev c env S2 with
          | none => none
          | some (z, S3) => (cmpF p y z S3).map fun c => (.d (.bool c), S3)
  | .and es, env, S => evAnd es env S
  | .or es, env, S => evOr es env S
  | .not a, env, S => match ev a env S with
    | none => none
    | some (x, S1) => (tru S1 x).map fun c => (.d (.bool !c), S1)
  | .ite t a b, env, S => match ev t env S with
    | none => none
    | some (x, S1) => match tru S1 x with
      | none => none
      | some true => ev a env S1
      | some false => ev b env S1
  | .ix a i, env, S => match ev a env S with
    | none => none
    | some (x, S1) => match ev i env S1 with
      | none => none
      | some (y, S2) => (ixF x y S2).map fun c => (c, S2)
  | .slc a lo hi, env, S => match ev a env S with
    | none => none
    | some (x, S1) => match evOpt lo env S1 with
      | none => none
      | some (l, S2) => match evOpt hi env S2 with
        | none => none
        | some (h, S3) => match deref S3 x with
          | none => none
          | some y => (slcD y l h).map fun c => (.d c, S3)
  | .call f es, env, S => match evs es env S with
    | none => none
    | some (as, S1) => match Φ[f]? with
      | none => none
      | some m => match m as S1 with
        | none => none
        | some (r, S2) => some (r, gc r S1 S2)
  | .blt b es, env, S => match evs es env S with
    | none => none
    | some (as, S1) => (bltF b as S1).map fun c => (c, S1)
  | .isi a ts, env, S => match ev a env S with
    | none => none
    | some (x, S1) => match deref S1 x with
      | none => none
      | some (.dict _) => none
      | some y => some (.d (.bool (ts.any fun t => typeOk y t)), S1)
  | .comp t it ifs e, env, S => match evI it env S with
    | none => none
    | some (xs, w, S1) =>
      let env0 := wipeE env t.slots
      match compL (watC w S1 fun x S2 => match bnd t (itA it x) env0 S2 with
        | none => none
        | some (env1, S3) => match evTs ifs env1 S3 with
          | none => none
          | some (false, S4) => some (none, S4)
          | some (true, S4) => match ev e env1 S4 with
            | none => none
            | some (y, S5) => match frz S5 y with
              | none => none
              | some (z, S6) => some (some z, S6)) xs S1 with
      | none => none
      | some (ys, S2) => some (.d (.list ys), unlF w S2)
  | .dcomp t it ifs k e, env, S => match evI it env S with
    | none => none
    | some (xs, w, S1) =>
      let env0 := wipeE env t.slots
      match compDL (watC w S1 fun x S2 => match bnd t (itA it x) env0 S2 with
        | none => none
        | some (env1, S3) => match evTs ifs env1 S3 with
          | none => none
          | some (false, S4) => some (none, S4)
          | some (true, S4) => match ev k env1 S4 with
            | some (.d y, S5) => match ev e env1 S5 with
              | none => none
              | some (b, S6) => match frz S6 b with
                | none => none
                | some (z, S7) => some (some (y, z), S7)
            | _ => none) xs [] S1 with
      | none => none
      | some (kvs, S2) => some (.d (.dict kvs), unlF w S2)
  | .dnew, _, S => some (.d (.dict []), S)
  | .d1 k e, env, S => match ev k env S with
    | some (.d x, S1) => match ev e env S1 with
      | none => none
      | some (a, S2) => match frz S2 a with
        | some (v, S3) => if (keyD x).isSome = true then some (.d (.dict [(x, v)]), S3) else none
        | none => none
    | _ => none
  | .dget o k, env, S => match ev o env S with
    | none => none
    | some (a, S1) => match deref S1 a with
      | some (.dict _) => match ev k env S1 with
        | some (.d x, S2) => match deref S2 a with
          | some d => (getdD d x).map fun r => (.d (r.getD .none), S2)
          | none => none
        | _ => none
      | _ => none
  | .dgetd o k f, env, S => match ev o env S with
    | none => none
    | some (a, S1) => match deref S1 a with
      | some (.dict _) => match ev k env S1 with
        | some (.d x, S2) => match ev f env S2 with
          | some (.d y, S3) => match deref S3 a with
            | some d => (getdD d x).map fun r => (.d (r.getD y), S3)
            | none => none
          | _ => none
        | _ => none
      | _ => none
  | .dpop o k, env, S => match ev o env S with
    | none => none
    | some (a, S1) => match deref S1 a with
      | some (.dict _) => match ev k env S1 with
        | some (.d x, S2) => (dpopF a x S2).map fun r => (.d r.1, r.2)
        | _ => none
      | _ => none
  | .its srt o, env, S => match ev o env S with
    | none => none
    | some (a, S1) => match deref S1 a with
      | some (.dict kvs) => if srt = true then (sortD (itmD kvs)).map fun xs => (.d (.list xs), S1) else some (.d (.list (itmD kvs)), S1)
      | _ => none
  | .lrg2 a b, env, S => match ev a env S with
    | some (.d (.int i), S1) => match ev b env S1 with
      | some (.d (.int j), S2) => (rngF i j).map fun xs => (.d (.list xs), S2)
      | _ => none
    | _ => none
  | .lrg a, env, S => match ev a env S with
    | some (.d (.int j), S1) => (rngF 0 j).map fun xs => (.d (.list xs), S1)
    | _ => none
  | .mth m o a, env, S => match ev o env S with
    | none => none
    | some (x, S1) => match deref S1 x with
      | some (.list _) => match ev a env S1 with
        | none => none
        | some (y, S2) => match deref S2 x, deref S2 y with
          | some dx, some dy => (mthD m dx dy).map fun i => (.d (.int i), S2)
          | _, _ => none
      | _ => none
def evs : Exs → En → Sto → Option (List A × Sto)
  | .nil, _, S => some ([], S)
  | .cons e es, env, S => match ev e env S with
    | none => none
    | some (a, S1) => match evs es env S1 with
      | none => none
      | some (as, S2) => some (a :: as, S2)
def evAnd : Exs → En → Sto → Option (A × Sto)
  | .nil, _, _ => none
  | .cons e es, env, S => match ev e env S with
    | none => none
    | some (a, S1) => if es.isNil = true then some (a, S1) else match tru S1 a with
      | none => none
      | some false => some (a, S1)
      | some true => evAnd es env S1
def evOr : Exs → En → Sto → Option (A × Sto)
  | .nil, _, _ => none
  | .cons e es, env, S => match ev e env S with
    | none => none
    | some (a, S1) => if es.isNil = true then some (a, S1) else match tru S1 a with
      | none => none
      | some true => some (a, S1)
      | some false => evOr es env S1
/-- a comprehension's tests: none or one -/
def evTs : Exs → En → Sto → Option (Bool × Sto)
  | .nil, _, S => some (true, S)
  | .cons e es, env, S => match es with
    | .nil => match ev e env S with
      | none => none
      | some (a, S1) => (tru S1 a).map fun c => (c, S1)
    | _ => none
def evOpt : Exs → En → Sto → Option (Option Int × Sto)
  | .nil, _, S => some (none, S)
  | .cons e es, env, S => match es with
    | .nil => match ev e env S with
      | some (.d (.int i), S1) => some (some i, S1)
      | _ => none
    | _ => none
def evI : Itx → En → Sto → Option (List PyData × Option Nat × Sto)
  | .seq e, env, S => match ev e env S with
    | none => none
    | some (a, S1) => match seqF a S1 with
      | some r => some (r.1, r.2, S1)
      | none => (lkF a S1).map fun r => (r.1.map (·.1), r.2.1, r.2.2)
  | .itm e, env, S => match ev e env S with
    | none => none
    | some (a, S1) => (lkF a S1).map fun r => (itmD r.1, r.2.1, r.2.2)
  | .rng a, env, S => match ev a env S with
    | some (.d (.int j), S1) => (rngF 0 j).map fun xs => (xs, none, S1)
    | _ => none
  | .rng2 a b, env, S => match ev a env S with
    | some (.d (.int i), S1) => match ev b env S1 with
      | some (.d (.int j), S2) => (rngF i j).map fun xs => (xs, none, S2)
      | _ => none
    | _ => none
  | .enm e, env, S => match ev e env S with
    | some (.d (.list xs), S1) => some (enmD xs, none, S1)
    | some (.d (.tuple xs), S1) => some (enmD xs, none, S1)
    | _ => none
  | .zip a b, env, S => match ev a env S with
    | some (.d (.list xs), S1) => match ev b env S1 with
      | some (.d (.list ys), S2) => if xs.length ≤ 16777216 then some (zipD xs ys, none, S2) else none
      | _ => none
    | some (.d (.tuple xs), S1) => match ev b env S1 with
      | some (.d (.tuple ys), S2) => if xs.length ≤ 16777216 then some (zipD xs ys, none, S2) else none
      | _ => none
    | _ => none
/-- a value given to a target -/
def bnd : Tg → A → En → Sto → Option (En × Sto)
  | .nm i, a, env, S => some (env.set i (some a), S)
  | .tp ts, a, env, S => match a with
    | .d (.tuple xs) => if xs.length = ts.len then bnds ts (xs.map .d) env S else none
    | .pr x y => if ts.len = 2 then bnds ts [x, y] env S else none
    | _ => none
  | .sub o i, a, env, S => match ev o env S with
    | none => none
    | some (x, S1) => match ev i env S1 with
      | none => none
      | some (y, S2) => (setF x y a S2).map fun S3 => (env, S3)
def bnds : Tgs → List A → En → Sto → Option (En × Sto)
  | .nil, as, env, S => match as with
    | [] => some (env, S)
    | _ => none
  | .cons t ts, as, env, S => match as with
    | [] => none
    | a :: as => match bnd t a env S with
      | none => none
      | some (env1, S1) => bnds ts as env1 S1
end
def evT (e : Ex) (env : En) (S : Sto) : Option (Bool × Sto) := match ev Φ Γ e env S with
  | none => none
  | some (a, S1) => (tru S1 a).map fun c => (c, S1)
mutual
def ex : Sx → En → Sto → Option (Fl × En × Sto)
  | .asg t e, env, S => match ev Φ Γ e env S with
    | none => none
    | some (a, S1) => (bnd Φ Γ t a env S1).map fun r => (.nx, r.1, r.2)
  | .par ts es, env, S => match evs Φ Γ es env S with
    | none => none
    | some (as, S1) => (bnds Φ Γ ts as env S1).map fun r => (.nx, r.1, r.2)
  | .app o e, env, S => match ev Φ Γ o env S with
    | none => none
    | some (x, S1) => match deref S1 x with
      | some (.list _) => match ev Φ Γ e env S1 with
        | none => none
        | some (y, S2) => (appF x y S2).map fun S3 => (.nx, env, S3)
      | _ => none
  | .ifs t a b, env, S => match evT Φ Γ t env S with
    | none => none
    | some (true, S1) => exs a env S1
    | some (false, S1) => exs b env S1
  | .for_ t it b wl, env, S => match evI Φ Γ it env S with
    | none => none
    | some (xs, w, S1) => forL (watF w S1 fun x env S => match bnd Φ Γ t (itA it x) env S with
        | none => none
        | some (env1, S1) => (exs b env1 S1).map fun r => (r.1, wipeE r.2.1 wl, r.2.2)) xs env S1
  | .whl n t b wl, env, S => whlL (evT Φ Γ t) (fun env S => (exs b env S).map fun r => (r.1, wipeE r.2.1 wl, r.2.2)) n env S
  | .ret e, env, S => match ev Φ Γ e env S with
    | none => none
    | some (a, S1) => match frz S1 a with
      | some (x, S2) => some (.rt (.d x), env, S2)
      | none => some (.rt a, env, S1)
  | .retO e, env, S => match ev Φ Γ e env S with
    | none => none
    | some (a, S1) => some (.rt a, env, S1)
  | .ret0, env, S => some (.rt (.d .none), env, S)
  | .exp e, env, S => match ev Φ Γ e env S with
    | none => none
    | some (_, S1) => some (.nx, env, S1)
  | .brk, env, S => some (.bk, env, S)
  | .cnt, env, S => some (.ct, env, S)
  | .pas, env, S => some (.nx, env, S)
def exs : Ss → En → Sto → Option (Fl × En × Sto)
  | .nil, env, S => some (.nx, env, S)
  | .cons s ss, env, S => match ex s env S with
    | some (.nx, env1, S1) => exs ss env1 S1
    | some (.rt a, env1, S1) => some (.rt a, env1, S1)
    | some (.bk, env1, S1) => some (.bk, env1, S1)
    | some (.ct, env1, S1) => some (.ct, env1, S1)
    | none => none
end
/-- a def: n slots, its body -/
def run (n : Nat) (b : Ss) : Fs := fun as S => match exs Φ Γ b (as.map some ++ List.replicate (n - as.length) none) S with
  | some (.rt a, _, S') => some (a, S')
  | some (.nx, _, S') => some (.d .none, S')
  | _ => none
end
end PV

/-! PV2: worlds: how data and store lie in the abstract heap. -/
namespace PV
open PySem PySem.Spec PyProof.Rows L2

/-- a tuple without attributes of its own -/
def TupP (K : PySem.W.Frag) (F : Hp) (a : Addr) (vs : List V) : Prop := (∃ o, F a = some (.frz o (.tup vs)) ∧ o.dict = none) ∨
  ∃ (o : PySem.Obj) (its : Array Value) (n : Nat), K.lookup a = some o ∧ o.cls = .type "tuple" ∧ o.dict = none ∧ o.data = .seq its n ∧ its.size ≤ sizeLine ∧ Vals vs its.toList
theorem TupP.seq {K : PySem.W.Frag} {F : Hp} {a : Addr} {vs : List V} (h : TupP K F a vs) : SqT K F a vs := by
  rcases h with ⟨o, h, _⟩ | ⟨o, its, n, h1, h2, _, h3, h4, h5⟩
  · exact .inl (.inr ⟨o, h⟩)
  · exact .inr ⟨o, its, n, h1, h2, h3, h4, h5⟩
/-- what follows with a new tuple -/
def NT (H : Hp) (xs : List V) (Q : VK) : Prop := ∀ (p : Addr) (o : PySem.Obj), H p = none → o.dict = none → Q (.ref p) (upd H p (.frz o (.tup xs)))
mutual
/-- v lies as the datum, in objects that never change again -/
inductive Rp (K : PySem.W.Frag) (F : Hp) : V → PyData → Prop
  | non : Rp K F .non .none
  | bl (b : Bool) : Rp K F (.bl b) (.bool b)
  | int (i : Int) : Rp K F (.int i) (.int i)
  | str (x : Str) : Rp K F (.str x) (.str x)
  | lst {a : Addr} {vs : List V} {ds : List PyData} : F a = some (.lst vs) → RpA K F vs ds → Rp K F (.ref a) (.list ds)
  | tup {a : Addr} {vs : List V} {ds : List PyData} : TupP K F a vs → RpA K F vs ds → Rp K F (.ref a) (.tuple ds)
  | dicK {a : Addr} {vs : List (Key × V)} {ds : List (PyData × PyData)} : F a = some (.dK vs) → RpK K F vs ds → Rp K F (.ref a) (.dict ds)
inductive RpA (K : PySem.W.Frag) (F : Hp) : List V → List PyData → Prop
  | nil : RpA K F [] []
  | cons {v : V} {vs : List V} {d : PyData} {ds : List PyData} : Rp K F v d → RpA K F vs ds → RpA K F (v :: vs) (d :: ds)
inductive RpK (K : PySem.W.Frag) (F : Hp) : List (Key × V) → List (PyData × PyData) → Prop
  | nil : RpK K F [] []
  | cons {k : Key} {v : V} {vs : List (Key × V)} {x d : PyData} {ds : List (PyData × PyData)} : keyD x = some k → Rp K F v d → RpK K F vs ds → RpK K F ((k, v) :: vs) ((x, d) :: ds)
end
def LeF (F F' : Hp) : Prop := ∀ a u, F a = some u → F' a = some u
section
variable {K : PySem.W.Frag} {F F' H : Hp}
theorem LeF.rd (h : LeF F F') {a : Addr} {u : HO} (r : Rd F a u) : Rd F' a u := r.elim (fun e => .inl (h _ _ e)) fun ⟨o, e⟩ => .inr ⟨o, h _ _ e⟩
theorem LeF.seqL (h : LeF F F') {a : Addr} {xs : List V} (q : SqL K F a xs) : SqL K F' a xs := q.elim (fun r => .inl (h.rd r)) .inr
theorem LeF.tupP (h : LeF F F') {a : Addr} {xs : List V} (q : TupP K F a xs) : TupP K F' a xs := q.elim (fun ⟨o, r, d⟩ => .inl ⟨o, h _ _ r, d⟩) .inr
theorem LeF.seqT (h : LeF F F') {a : Addr} {xs : List V} (q : SqT K F a xs) : SqT K F' a xs := q.elim (fun r => .inl (h.rd r)) .inr
/-- a dict may be locked meanwhile -/
def isDic : HO → Bool
  | .dK _ => true
  | .dT _ => true
  | _ => false
def SubF (F H : Hp) : Prop := ∀ a u, F a = some u → H a = some u ∨ (isDic u = true ∧ ∃ o, H a = some (.frz o u))
theorem SubF.ex (h : SubF F H) {a : Addr} {u : HO} (e : F a = some u) (n : isDic u = false) : H a = some u := (h a u e).elim id fun z => by
  rw [n] at z
  exact absurd z.1 Bool.false_ne_true
theorem SubF.rd (h : SubF F H) {a : Addr} {u : HO} (r : Rd F a u) : Rd H a u := by
  rcases r with r | ⟨o, r⟩
  · exact (h a u r).elim .inl fun z => .inr z.2
  · exact .inr ⟨o, h.ex r rfl⟩
theorem SubF.seqL (h : SubF F H) {a : Addr} {xs : List V} (q : SqL K F a xs) : SqL K H a xs := q.elim (fun r => .inl (h.rd r)) .inr
theorem SubF.tupP (h : SubF F H) {a : Addr} {xs : List V} (q : TupP K F a xs) : TupP K H a xs := q.elim (fun ⟨o, r, d⟩ => .inl ⟨o, h.ex r rfl, d⟩) .inr
theorem SubF.seqT (h : SubF F H) {a : Addr} {xs : List V} (q : SqT K F a xs) : SqT K H a xs := q.elim (fun r => .inl (h.rd r)) .inr
mutual
theorem Rp.le (h : LeF F F') : ∀ {v d}, Rp K F v d → Rp K F' v d
  | _, _, .non => .non
  | _, _, .bl b => .bl b
  | _, _, .int i => .int i
  | _, _, .str x => .str x
  | _, _, .lst q r => .lst (h _ _ q) (RpA.le h r)
  | _, _, .tup q r => .tup (h.tupP q) (RpA.le h r)
  | _, _, .dicK q r => .dicK (h _ _ q) (RpK.le h r)
theorem RpA.le (h : LeF F F') : ∀ {v d}, RpA K F v d → RpA K F' v d
  | _, _, .nil => .nil
  | _, _, .cons q r => .cons (Rp.le h q) (RpA.le h r)
theorem RpK.le (h : LeF F F') : ∀ {v d}, RpK K F v d → RpK K F' v d
  | _, _, .nil => .nil
  | _, _, .cons e q r => .cons e (Rp.le h q) (RpK.le h r)
end
theorem RpA.length : ∀ {vs : List V} {ds : List PyData}, RpA K F vs ds → vs.length = ds.length
  | _, _, .nil => rfl
  | _, _, .cons _ r => by rw [List.length_cons, List.length_cons, r.length]
theorem RpA.get : ∀ {vs : List V} {ds : List PyData} {i : Nat} {d : PyData}, RpA K F vs ds → ds[i]? = some d → ∃ v, vs[i]? = some v ∧ Rp K F v d
  | _, _, _, _, .nil, e => by simp at e
  | _, _, 0, _, .cons q _, e => by
    simp at e
    subst e
    exact ⟨_, rfl, q⟩
  | _, _, i + 1, d, .cons _ r, e => by
    obtain ⟨v, h1, h2⟩ := RpA.get (i := i) (d := d) r (by simpa using e)
    exact ⟨v, by simpa using h1, h2⟩
theorem RpA.append : ∀ {vs ws : List V} {ds es : List PyData}, RpA K F vs ds → RpA K F ws es → RpA K F (vs ++ ws) (ds ++ es)
  | _, _, _, _, .nil, s => s
  | _, _, _, _, .cons q r, s => .cons q (r.append s)
theorem RpA.drop : ∀ {vs : List V} {ds : List PyData} (n : Nat), RpA K F vs ds → RpA K F (vs.drop n) (ds.drop n)
  | _, _, 0, r => r
  | _, _, _ + 1, .nil => .nil
  | _, _, n + 1, .cons _ r => r.drop n
theorem RpA.take : ∀ {vs : List V} {ds : List PyData} (n : Nat), RpA K F vs ds → RpA K F (vs.take n) (ds.take n)
  | _, _, 0, _ => .nil
  | _, _, _ + 1, .nil => .nil
  | _, _, n + 1, .cons q r => .cons q (r.take n)
theorem RpA.set {v : V} {d : PyData} (q : Rp K F v d) : ∀ {vs : List V} {ds : List PyData} (n : Nat), RpA K F vs ds → RpA K F (vs.set n v) (ds.set n d)
  | _, _, _, .nil => .nil
  | _, _, 0, .cons _ r => .cons q r
  | _, _, n + 1, .cons p r => .cons p (r.set q n)
theorem RpA.cut {vs : List V} {ds : List PyData} (r : RpA K F vs ds) (lo hi : Option Int) : RpA K F (cutV vs lo hi) (cutG ds lo hi) := by
  unfold cutV cutG
  rw [r.length]
  exact (r.drop _).take _
theorem RpA.at {vs : List V} {ds : List PyData} (r : RpA K F vs ds) {i : Int} {d : PyData} (h : atI ds i = some d) : ∃ v, atI vs i = some v ∧ Rp K F v d := by
  unfold atI at h ⊢
  rw [r.length]
  cases e : ixN ds.length i with
  | none =>
    rw [e] at h
    cases h
  | some j =>
    rw [e] at h
    exact r.get h
theorem RpA.rep {vs : List V} {ds : List PyData} (r : RpA K F vs ds) : ∀ n : Nat, RpA K F (List.replicate n vs).flatten (List.replicate n ds).flatten
  | 0 => .nil
  | n + 1 => by
    rw [List.replicate_succ, List.replicate_succ, List.flatten_cons, List.flatten_cons]
    exact r.append (r.rep n)
theorem RpA.ints : ∀ {vs : List V} {ds : List PyData} {ns : List Int}, RpA K F vs ds → intsD ds = some ns → vs = ns.map V.int
  | _, _, _, .nil, e => by
    cases e
    rfl
  | _, _, _, .cons (d := d) (ds := ds) q r, e => by
    cases q with
    | int i =>
      unfold intsD at e
      cases h : intsD ds with
      | none =>
        rw [h] at e
        cases e
      | some ns =>
        rw [h] at e
        cases e
        rw [r.ints h]
        rfl
    | _ => cases e
theorem RpA.bools : ∀ {vs : List V} {ds : List PyData} {bs : List Bool}, RpA K F vs ds → boolsD ds = some bs → vs = bs.map V.bl
  | _, _, _, .nil, e => by
    cases e
    rfl
  | _, _, _, .cons (d := d) (ds := ds) q r, e => by
    cases q with
    | bl i =>
      unfold boolsD at e
      cases h : boolsD ds with
      | none =>
        rw [h] at e
        cases e
      | some ns =>
        rw [h] at e
        cases e
        rw [r.bools h]
        rfl
    | _ => cases e
theorem RpA.mem {vs : List V} {ds : List PyData} : RpA K F vs ds → ∀ {v : V}, v ∈ vs → ∃ d, d ∈ ds ∧ Rp K F v d
  | .nil, _, h => by cases h
  | .cons q r, v, h => by
    rcases List.mem_cons.mp h with e | h
    · subst e
      exact ⟨_, List.mem_cons_self, q⟩
    · obtain ⟨d, h1, h2⟩ := r.mem h
      exact ⟨d, List.mem_cons_of_mem _ h1, h2⟩
/-- as the hand layer's own data -/
theorem Rp.dp (hs : SubF F H) : ∀ (d : PyData) {v : V}, Rp K F v d → noDic d = true → Dp K H v d := by
  intro d
  refine PyData.rec (motive_1 := fun d => ∀ {v : V}, Rp K F v d → noDic d = true → Dp K H v d) (motive_2 := fun ds => ∀ {vs : List V}, RpA K F vs ds → noDics ds = true → DpAll K H vs ds) (motive_3 := fun _ => True) (motive_4 := fun _ => True)
    ?_ ?_ ?_ ?_ ?_ ?_ ?_ ?_ ?_ ?_ ?_ ?_ d
  · intro v r _
    cases r
    exact .non
  · intro b v r _
    cases r
    exact .bl b
  · intro b v r _
    cases r
    exact .int b
  · intro b v r _
    cases r
    exact .str b
  · intro xs ih v r h
    cases r with
    | lst q r => exact .lst (.inl (.inl (hs.ex q rfl))) (ih r (by simpa [noDic] using h))
  · intro xs ih v r h
    cases r with
    | tup q r => exact .tup (hs.tupP q).seq (ih r (by simpa [noDic] using h))
  · intro kvs _ v r h
    simp [noDic] at h
  · intro vs r _
    cases r
    exact .nil
  · intro d ds ih1 ih2 vs r h
    cases r with
    | cons q r =>
      have h : noDic d = true ∧ noDics ds = true := by simpa [noDics] using h
      exact .cons (ih1 q h.1) (ih2 r h.2)
  · trivial
  · intros; trivial
  · intros; trivial
end
mutual
theorem noDic_lay : ∀ d : PyData, d.canLay0 = true → noDic d = true
  | .none, _ => rfl
  | .bool _, _ => rfl
  | .int _, _ => rfl
  | .str _, _ => rfl
  | .list xs, h => noDics_lay xs (by simpa [PyData.canLay0] using h)
  | .tuple xs, h => noDics_lay xs (by simpa [PyData.canLay0] using h)
  | .dict _, h => by simp [PyData.canLay0] at h
theorem noDics_lay : ∀ d : List PyData, PyData.canLayAll0 d = true → noDics d = true
  | [], _ => rfl
  | x :: xs, h => by
    have h : x.canLay0 = true ∧ PyData.canLayAll0 xs = true := by simpa [PyData.canLayAll0] using h
    simp [noDics, noDic_lay x h.1, noDics_lay xs h.2]
end
theorem noDics_mem : ∀ {ds : List PyData} {d : PyData}, noDics ds = true → d ∈ ds → noDic d = true
  | x :: xs, d, h, hd => by
    have h : noDic x = true ∧ noDics xs = true := by simpa [noDics] using h
    rcases List.mem_cons.mp hd with e | hd
    · exact e ▸ h.1
    · exact noDics_mem h.2 hd

/-! ### worlds -/
structure Wo where
  F : Hp
  ρ : List Addr
  G : Hp
  /-- what is locked -/
  L : Hp
structure Le (W W' : Wo) : Prop where
  F : LeF W.F W'.F
  ρ : ∃ m, W'.ρ = W.ρ ++ m
  G : W'.G = W.G
  L : LeF W.L W'.L
theorem Le.refl (W : Wo) : Le W W := ⟨fun _ _ e => e, ⟨[], by simp⟩, rfl, fun _ _ e => e⟩
theorem Le.trans {W1 W2 W3 : Wo} (a : Le W1 W2) (b : Le W2 W3) : Le W1 W3 := by
  obtain ⟨m, e⟩ := a.ρ
  obtain ⟨m', e'⟩ := b.ρ
  exact ⟨fun x u q => b.F x u (a.F x u q), ⟨m ++ m', by rw [e', e, List.append_assoc]⟩, b.G.trans a.G, fun x u q => b.L x u (a.L x u q)⟩
theorem Le.get {W W' : Wo} (h : Le W W') {k : Nat} {a : Addr} (e : W.ρ[k]? = some a) : W'.ρ[k]? = some a := by
  obtain ⟨m, q⟩ := h.ρ
  rw [q]
  have hk : k < W.ρ.length := by
    rcases Nat.lt_or_ge k W.ρ.length with h | h
    · exact h
    · rw [List.getElem?_eq_none h] at e
      cases e
  rw [List.getElem?_append_left hk]
  exact e
def Ra (K : PySem.W.Frag) (W : Wo) : V → A → Prop
  | v, .d x => Rp K W.F v x
  | v, .obj k => ∃ a, W.ρ[k]? = some a ∧ v = .ref a
  | v, .pr x y => ∃ p vx vy, v = .ref p ∧ SqT K W.F p [vx, vy] ∧ Ra K W vx x ∧ Ra K W vy y
  | v, .seq ns => ∃ p, v = .ref p ∧ SqL K W.F p (ns.map V.int)
theorem Ra.le {K : PySem.W.Frag} {W W' : Wo} (h : Le W W') : ∀ {a : A} {v : V}, Ra K W v a → Ra K W' v a
  | .d _, _, r => Rp.le h.F r
  | .obj _, _, ⟨a, e, r⟩ => ⟨a, h.get e, r⟩
  | .pr _ _, _, ⟨p, vx, vy, e, q, r1, r2⟩ => ⟨p, vx, vy, e, h.F.seqT q, Ra.le h r1, Ra.le h r2⟩
  | .seq _, _, ⟨p, e, q⟩ => ⟨p, e, h.F.seqL q⟩
inductive RaA (K : PySem.W.Frag) (W : Wo) : List V → List A → Prop
  | nil : RaA K W [] []
  | cons {v : V} {vs : List V} {a : A} {as : List A} : Ra K W v a → RaA K W vs as → RaA K W (v :: vs) (a :: as)
theorem RaA.le {K : PySem.W.Frag} {W W' : Wo} (h : Le W W') : ∀ {vs : List V} {as : List A}, RaA K W vs as → RaA K W' vs as
  | _, _, .nil => .nil
  | _, _, .cons q r => .cons (q.le h) (r.le h)
theorem RaA.length {K : PySem.W.Frag} {W : Wo} : ∀ {vs : List V} {as : List A}, RaA K W vs as → vs.length = as.length
  | _, _, .nil => rfl
  | _, _, .cons _ r => by rw [List.length_cons, List.length_cons, r.length]
/-- an object of the store, at its place -/
def ObR (K : PySem.W.Frag) (W : Wo) (H : Hp) (a : Addr) : Ob → Prop
  | .lst xs fz => ∃ vs, H a = some (.lst vs) ∧ RpA K W.F vs xs ∧ W.F a = if fz = true then some (.lst vs) else none
  | .dic kvs fz lk => ∃ vs, (H a = some (.dK vs) ∨ ((fz = true ∨ lk = true) ∧ ∃ o, H a = some (.frz o (.dK vs)))) ∧ RpK K W.F vs kvs ∧ W.F a = if fz = true then some (.dK vs) else none
  | .ins _ _ => False
def isFrz : HO → Bool
  | .frz _ _ => true
  | _ => false
structure Wd (K : PySem.W.Frag) (W : Wo) (H : Hp) (S : Sto) : Prop where
  sub : SubF W.F H
  len : W.ρ.length = S.length
  nd : W.ρ.Nodup
  ob : ∀ (k : Nat) (a : Addr) (o : Ob), W.ρ[k]? = some a → S[k]? = some o → ObR K W H a o
  gu : ∀ (a : Addr) (u : HO), W.G a = some u → H a = some u ∧ W.F a = none ∧ a ∉ W.ρ
  lu : ∀ (a : Addr) (u : HO), W.L a = some u → H a = some u ∧ isFrz u = true
section
variable {K : PySem.W.Frag} {W W' : Wo} {H H' : Hp} {S : Sto} {p a : Addr} {o : Ob} {u : HO}
theorem ObR.stay (h : ObR K W H a o) (le : LeF W.F W'.F) (e : H' a = H a) (f : W.F a = none → W'.F a = none) : ObR K W' H' a o := by
  cases o with
  | lst xs fz =>
    obtain ⟨vs, h1, h2, h3⟩ := h
    refine ⟨vs, e.trans h1, h2.le le, ?_⟩
    cases fz with
    | true => exact le _ _ (by simpa using h3)
    | false =>
      have h3 : W.F a = none := by simpa using h3
      simpa using f h3
  | dic kvs fz lk =>
    obtain ⟨vs, h1, h2, h3⟩ := h
    refine ⟨vs, by rw [e]; exact h1, h2.le le, ?_⟩
    cases fz with
    | true => exact le _ _ (by simpa using h3)
    | false =>
      have h3 : W.F a = none := by simpa using h3
      simpa using f h3
  | ins _ _ => exact h
theorem ObR.there (h : ObR K W H a o) : ∃ u, H a = some u := by
  cases o with
  | lst xs fz =>
    obtain ⟨vs, h1, _⟩ := h
    exact ⟨_, h1⟩
  | dic kvs fz lk =>
    obtain ⟨vs, h1, _⟩ := h
    rcases h1 with h1 | ⟨_, o, h1⟩
    · exact ⟨_, h1⟩
    · exact ⟨_, h1⟩
  | ins _ _ => exact h.elim
theorem Wd.at (h : Wd K W H S) {k : Nat} (e : W.ρ[k]? = some a) : ∃ o, S[k]? = some o ∧ ObR K W H a o := by
  have hk : k < S.length := by
    rw [← h.len]
    rcases Nat.lt_or_ge k W.ρ.length with q | q
    · exact q
    · rw [List.getElem?_eq_none q] at e
      cases e
  exact ⟨S[k], List.getElem?_eq_getElem hk, h.ob k a _ e (List.getElem?_eq_getElem hk)⟩
theorem Wd.notin (h : Wd K W H S) (n : H p = none) : p ∉ W.ρ := fun hp => by
  obtain ⟨k, e⟩ := List.getElem?_of_mem hp
  obtain ⟨o, _, r⟩ := h.at e
  obtain ⟨u, q⟩ := r.there
  rw [n] at q
  cases q
theorem Wd.freeF (h : Wd K W H S) (n : H p = none) : W.F p = none := by
  cases e : W.F p with
  | none => rfl
  | some u =>
    rcases h.sub p u e with q | ⟨_, _, q⟩ <;> (rw [n] at q; cases q)
theorem ix_inj {l : List Addr} (h : l.Nodup) {i j : Nat} {a : Addr} (e : l[i]? = some a) (q : l[j]? = some a) : i = j := by
  have hi : i < l.length := by
    rcases Nat.lt_or_ge i l.length with z | z
    · exact z
    · rw [List.getElem?_eq_none z] at e
      cases e
  exact (List.getElem?_inj hi h).mp (e.trans q.symm)
theorem Wd.freeG (h : Wd K W H S) (n : H p = none) : W.G p = none := by
  cases e : W.G p with
  | none => rfl
  | some u =>
    have := (h.gu p u e).1
    rw [n] at this
    cases this
theorem Wd.freeL (h : Wd K W H S) (n : H p = none) : W.L p = none := by
  cases e : W.L p with
  | none => rfl
  | some u =>
    have := (h.lu p u e).1
    rw [n] at this
    cases this
theorem Wd.notL (h : Wd K W H S) (n : H p = some u) (f : isFrz u = false) : W.L p = none := by
  cases e : W.L p with
  | none => rfl
  | some x =>
    obtain ⟨e1, e2⟩ := h.lu p x e
    rw [n] at e1
    cases e1
    rw [f] at e2
    cases e2
theorem Wd.luUpd (h : Wd K W H S) (n : W.L p = none) : ∀ (a : Addr) (x : HO), W.L a = some x → upd H p u a = some x ∧ isFrz x = true := fun a x e => by
  have na : a ≠ p := ne_of_none (H := W.L) e n
  rw [upd_ne na]
  exact h.lu a x e
theorem leF_upd {F : Hp} (n : F p = none) : LeF F (upd F p u) := fun b x e => by
  rw [upd_ne (ne_of_none e n)]
  exact e
theorem Le.upd (n : W.F p = none) : Le W ⟨upd W.F p u, W.ρ, W.G, W.L⟩ := ⟨leF_upd n, ⟨[], by simp⟩, rfl, fun _ _ e => e⟩
/-- the heap changes where nothing is told -/
theorem Wd.heap (h : Wd K W H S) (k : ∀ b, H' b = H b ∨ (W.F b = none ∧ b ∉ W.ρ ∧ W.G b = none ∧ W.L b = none)) : Wd K W H' S := by
  refine ⟨fun b x r => ?_, h.len, h.nd, fun j b o e1 e2 => ?_, fun b x e => ?_, fun b x e => ?_⟩
  · rcases k b with q | ⟨q, _⟩
    · rw [q]
      exact h.sub b x r
    · rw [q] at r
      cases r
  · rcases k b with q | ⟨_, q, _⟩
    · exact (h.ob j b o e1 e2).stay (fun _ _ z => z) q fun z => z
    · exact absurd (List.mem_of_getElem? e1) q
  · rcases k b with q | ⟨_, _, q, _⟩
    · rw [q]
      exact h.gu b x e
    · rw [q] at e
      cases e
  · rcases k b with q | ⟨_, _, _, q⟩
    · rw [q]
      exact h.lu b x e
    · rw [q] at e
      cases e
/-- a new object that nothing tells of -/
theorem Wd.junk (h : Wd K W H S) (n : H p = none) : Wd K W (upd H p u) S := h.heap fun b => by
  by_cases e : b = p
  · subst e
    exact .inr ⟨h.freeF n, h.notin n, h.freeG n, h.freeL n⟩
  · exact .inl (upd_ne e)
/-- a new object that never changes -/
theorem Wd.pure (h : Wd K W H S) (n : H p = none) : Wd K ⟨upd W.F p u, W.ρ, W.G, W.L⟩ (upd H p u) S := by
  have nF := h.freeF n
  refine ⟨fun b x r => ?_, h.len, h.nd, fun j b o e1 e2 => ?_, fun b x e => ?_, h.luUpd (h.freeL n)⟩
  · have r : upd W.F p u b = some x := r
    by_cases e : b = p
    · subst e
      rw [upd_same] at r ⊢
      exact .inl r
    · rw [upd_ne e] at r ⊢
      exact h.sub b x r
  · have nb : b ≠ p := fun z => h.notin n (z ▸ List.mem_of_getElem? e1)
    exact (h.ob j b o e1 e2).stay (leF_upd nF) (upd_ne nb) fun z => by
      show upd W.F p u b = none
      rw [upd_ne nb]
      exact z
  · obtain ⟨g1, g2, g3⟩ := h.gu b x e
    have nb : b ≠ p := ne_of_none g1 n
    refine ⟨(upd_ne nb).trans g1, ?_, g3⟩
    show upd W.F p u b = none
    rw [upd_ne nb]
    exact g2
/-- .. and what lay new already -/
theorem Wd.keep (h : Wd K W H S) (e : H p = some u) (n : W.F p = none) (ni : p ∉ W.ρ) (ng : W.G p = none) : Wd K ⟨upd W.F p u, W.ρ, W.G, W.L⟩ H S := by
  refine ⟨fun b x r => ?_, h.len, h.nd, fun j b o e1 e2 => ?_, fun b x e => ?_, h.lu⟩
  · have r : upd W.F p u b = some x := r
    by_cases eb : b = p
    · subst eb
      rw [upd_same] at r
      exact .inl (e.trans r)
    · rw [upd_ne eb] at r
      exact h.sub b x r
  · have nb : b ≠ p := fun z => ni (z ▸ List.mem_of_getElem? e1)
    exact (h.ob j b o e1 e2).stay (leF_upd n) rfl fun z => by
      show upd W.F p u b = none
      rw [upd_ne nb]
      exact z
  · obtain ⟨g1, g2, g3⟩ := h.gu b x e
    have nb : b ≠ p := ne_of_none (H := W.G) e ng
    refine ⟨g1, ?_, g3⟩
    show upd W.F p u b = none
    rw [upd_ne nb]
    exact g2
/-- a new object of the store -/
theorem Wd.newOb (h : Wd K W H S) (ni : p ∉ W.ρ) (ng : W.G p = none) (r : ObR K W H p o) : Wd K ⟨W.F, W.ρ ++ [p], W.G, W.L⟩ H (S ++ [o]) := by
  refine ⟨h.sub, ?_, ?_, fun j b x e1 e2 => ?_, fun b x e => ?_, h.lu⟩
  · show (W.ρ ++ [p]).length = _
    rw [List.length_append, List.length_append, h.len]
    rfl
  · show (W.ρ ++ [p]).Nodup
    rw [List.nodup_append]
    refine ⟨h.nd, by simp, fun x hx y hy => ?_⟩
    have : y = p := by simpa using hy
    subst this
    exact fun z => ni (z ▸ hx)
  · have e1 : (W.ρ ++ [p])[j]? = some b := e1
    have st : ∀ {b x}, ObR K W H b x → ObR K ⟨W.F, W.ρ ++ [p], W.G, W.L⟩ H b x := fun q => q.stay (fun _ _ z => z) rfl fun z => z
    by_cases hj : j < W.ρ.length
    · rw [List.getElem?_append_left hj] at e1
      rw [List.getElem?_append_left (by rw [← h.len]; exact hj)] at e2
      exact st (h.ob j b x e1 e2)
    · rw [List.getElem?_append_right (Nat.le_of_not_lt hj)] at e1
      rw [List.getElem?_append_right (by rw [← h.len]; exact Nat.le_of_not_lt hj)] at e2
      have e0 : j - W.ρ.length = 0 := by
        rcases Nat.eq_zero_or_pos (j - W.ρ.length) with z | z
        · exact z
        · rw [List.getElem?_eq_none (by simp; omega)] at e1
          cases e1
      rw [← h.len, e0] at e2
      rw [e0] at e1
      simp at e1 e2
      subst e1 e2
      exact st r
  · obtain ⟨g1, g2, g3⟩ := h.gu b x e
    refine ⟨g1, g2, fun z => ?_⟩
    rcases List.mem_append.mp (show b ∈ W.ρ ++ [p] from z) with z | z
    · exact g3 z
    · exact ne_of_none (H := W.G) e ng (by simpa using z)
theorem Le.newOb : Le W ⟨W.F, W.ρ ++ [p], W.G, W.L⟩ := ⟨fun _ _ e => e, ⟨[p], rfl⟩, rfl, fun _ _ e => e⟩
/-- an object of the store is written -/
theorem Wd.write (h : Wd K W H S) {k : Nat} (e : W.ρ[k]? = some p) (n : W.F p = none) (nl : W.L p = none) {o' : Ob} (r : ObR K W (upd H p u) p o') : Wd K W (upd H p u) (S.set k o') := by
  refine ⟨fun b x q => ?_, by rw [List.length_set]; exact h.len, h.nd, fun j b x e1 e2 => ?_, fun b x eg => ?_, h.luUpd nl⟩
  · have nb : b ≠ p := fun z => by
      subst z
      rw [n] at q
      cases q
    rw [upd_ne nb]
    exact h.sub b x q
  · by_cases hj : j = k
    · subst hj
      rw [e] at e1
      cases e1
      have hk : j < S.length := by
        rcases Nat.lt_or_ge j S.length with q | q
        · exact q
        · rw [List.getElem?_eq_none (by rw [List.length_set]; exact q)] at e2
          cases e2
      rw [List.getElem?_set_self hk] at e2
      cases e2
      exact r
    · rw [List.getElem?_set_ne (Ne.symm hj)] at e2
      have nb : b ≠ p := fun z => by
        subst z
        exact hj (ix_inj h.nd e1 e)
      exact (h.ob j b x e1 e2).stay (fun _ _ z => z) (upd_ne nb) fun z => z
  · obtain ⟨g1, g2, g3⟩ := h.gu b x eg
    exact ⟨(upd_ne fun z => g3 (by rw [z]; exact List.mem_of_getElem? e)).trans g1, g2, g3⟩
/-- a list of the store is not to change again -/
theorem Wd.freeze (h : Wd K W H S) {k : Nat} {xs : List PyData} {fz : Bool} (e : W.ρ[k]? = some p) (es : S[k]? = some (.lst xs fz)) : ∃ vs W', Le W W' ∧ W'.ρ = W.ρ ∧ Wd K W' H (S.set k (.lst xs true)) ∧ W'.F p = some (.lst vs) ∧ RpA K W'.F vs xs := by
  obtain ⟨vs, h1, h2, h3⟩ := h.ob k p _ e es
  have hlen : k < S.length := by
    rcases Nat.lt_or_ge k S.length with q | q
    · exact q
    · rw [List.getElem?_eq_none q] at es
      cases es
  cases fz with
  | true =>
    have h3 : W.F p = some (.lst vs) := by simpa using h3
    have eS : S.set k (.lst xs true) = S := by
      apply List.ext_getElem?
      intro i
      by_cases hi : i = k
      · subst hi
        rw [List.getElem?_set_self hlen, es]
      · rw [List.getElem?_set_ne (Ne.symm hi)]
    rw [eS]
    exact ⟨vs, W, .refl W, rfl, h, h3, h2⟩
  | false =>
    have n : W.F p = none := by simpa using h3
    refine ⟨vs, ⟨upd W.F p (.lst vs), W.ρ, W.G, W.L⟩, .upd n, rfl, ⟨fun b x r => ?_, by rw [List.length_set]; exact h.len, h.nd, fun j b x e1 e2 => ?_, fun b x eg => ?_, h.lu⟩, upd_same, h2.le (leF_upd n)⟩
    · have r : upd W.F p (.lst vs) b = some x := r
      by_cases eb : b = p
      · subst eb
        rw [upd_same] at r
        exact .inl (h1.trans r)
      · rw [upd_ne eb] at r
        exact h.sub b x r
    · by_cases hj : j = k
      · subst hj
        have e1 : W.ρ[j]? = some b := e1
        rw [e] at e1
        cases e1
        rw [List.getElem?_set_self hlen] at e2
        cases e2
        exact ⟨vs, h1, h2.le (leF_upd n), by
          show upd W.F p (.lst vs) p = _
          rw [upd_same]
          rfl⟩
      · rw [List.getElem?_set_ne (Ne.symm hj)] at e2
        have e1 : W.ρ[j]? = some b := e1
        have nb : b ≠ p := fun z => by
          subst z
          exact hj (ix_inj h.nd e1 e)
        exact (h.ob j b x e1 e2).stay (leF_upd n) rfl fun z => by
          show upd W.F p (.lst vs) b = none
          rw [upd_ne nb]
          exact z
    · obtain ⟨g1, g2, g3⟩ := h.gu b x eg
      refine ⟨g1, ?_, g3⟩
      show upd W.F p (.lst vs) b = none
      rw [upd_ne fun z => g3 (by rw [z]; exact List.mem_of_getElem? e)]
      exact g2
/-- .. a dict -/
theorem Wd.freezeD (h : Wd K W H S) {k : Nat} {kvs : List (PyData × PyData)} {fz lk : Bool} (e : W.ρ[k]? = some p) (es : S[k]? = some (.dic kvs fz lk)) : ∃ vs W', Le W W' ∧ W'.ρ = W.ρ ∧ Wd K W' H (S.set k (.dic kvs true lk)) ∧ W'.F p = some (.dK vs) ∧ RpK K W'.F vs kvs := by
  obtain ⟨vs, h1, h2, h3⟩ := h.ob k p _ e es
  have hlen : k < S.length := by
    rcases Nat.lt_or_ge k S.length with q | q
    · exact q
    · rw [List.getElem?_eq_none q] at es
      cases es
  cases fz with
  | true =>
    have h3 : W.F p = some (.dK vs) := by simpa using h3
    have eS : S.set k (.dic kvs true lk) = S := by
      apply List.ext_getElem?
      intro i
      by_cases hi : i = k
      · subst hi
        rw [List.getElem?_set_self hlen, es]
      · rw [List.getElem?_set_ne (Ne.symm hi)]
    rw [eS]
    exact ⟨vs, W, .refl W, rfl, h, h3, h2⟩
  | false =>
    have n : W.F p = none := by simpa using h3
    refine ⟨vs, ⟨upd W.F p (.dK vs), W.ρ, W.G, W.L⟩, .upd n, rfl, ⟨fun b x r => ?_, by rw [List.length_set]; exact h.len, h.nd, fun j b o e1 e2 => ?_, fun b x eg => ?_, h.lu⟩, upd_same, h2.le (leF_upd n)⟩
    · have r : upd W.F p (.dK vs) b = some x := r
      by_cases eb : b = p
      · subst eb
        rw [upd_same] at r
        cases r
        rcases h1 with h1 | ⟨_, h1⟩
        · exact .inl h1
        · exact .inr ⟨rfl, h1⟩
      · rw [upd_ne eb] at r
        exact h.sub b x r
    · by_cases hj : j = k
      · subst hj
        have e1 : W.ρ[j]? = some b := e1
        rw [e] at e1
        cases e1
        rw [List.getElem?_set_self hlen] at e2
        cases e2
        refine ⟨vs, ?_, h2.le (leF_upd n), by
          show upd W.F p (.dK vs) p = _
          rw [upd_same]
          rfl⟩
        rcases h1 with h1 | ⟨_, h1⟩
        · exact .inl h1
        · exact .inr ⟨.inl rfl, h1⟩
      · rw [List.getElem?_set_ne (Ne.symm hj)] at e2
        have e1 : W.ρ[j]? = some b := e1
        have nb : b ≠ p := fun z => by
          subst z
          exact hj (ix_inj h.nd e1 e)
        exact (h.ob j b o e1 e2).stay (leF_upd n) rfl fun z => by
          show upd W.F p (.dK vs) b = none
          rw [upd_ne nb]
          exact z
    · obtain ⟨g1, g2, g3⟩ := h.gu b x eg
      refine ⟨g1, ?_, g3⟩
      show upd W.F p (.dK vs) b = none
      rw [upd_ne fun z => g3 (by rw [z]; exact List.mem_of_getElem? e)]
      exact g2
/-- what is read: plain data as it lies now -/
def RpH (K : PySem.W.Frag) (W : Wo) (H : Hp) (v : V) (d : PyData) : Prop := Rp K W.F v d ∨ (∃ p vs ds, v = .ref p ∧ d = .list ds ∧ H p = some (.lst vs) ∧ RpA K W.F vs ds) ∨ ∃ p vs kvs, v = .ref p ∧ d = .dict kvs ∧ Rd H p (.dK vs) ∧ RpK K W.F vs kvs
theorem Wd.deref (h : Wd K W H S) {x : A} {v : V} {d : PyData} (r : Ra K W v x) (e : deref S x = some d) : RpH K W H v d := by
  cases x with
  | d y =>
    cases e
    exact .inl r
  | obj k =>
    obtain ⟨a, e1, rfl⟩ := r
    obtain ⟨o, e2, q⟩ := h.at e1
    simp only [PV.deref, e2] at e
    cases o with
    | lst xs fz =>
      cases e
      obtain ⟨vs, h1, h2, _⟩ := q
      exact .inr (.inl ⟨a, vs, xs, rfl, rfl, h1, h2⟩)
    | dic kvs fz lk =>
      cases e
      obtain ⟨vs, h1, h2, _⟩ := q
      refine .inr (.inr ⟨a, vs, kvs, rfl, rfl, ?_, h2⟩)
      rcases h1 with h1 | ⟨_, h1⟩
      · exact .inl h1
      · exact .inr h1
    | ins _ _ => exact q.elim
  | pr _ _ => cases e
  | seq _ => cases e
theorem RpH.list (hs : SubF W.F H) {v : V} {ds : List PyData} (r : RpH K W H v (.list ds)) : ∃ p vs, v = .ref p ∧ H p = some (.lst vs) ∧ RpA K W.F vs ds := by
  rcases r with r | ⟨p, vs, ds', rfl, e, h1, h2⟩ | ⟨p, vs, ds', rfl, e, h1, h2⟩
  · cases r with
    | lst q r => exact ⟨_, _, rfl, hs.ex q rfl, r⟩
  · cases e
    exact ⟨p, vs, rfl, h1, h2⟩
  · cases e
theorem RpH.dict (hs : SubF W.F H) {v : V} {kvs : List (PyData × PyData)} (r : RpH K W H v (.dict kvs)) : ∃ p vs, v = .ref p ∧ Rd H p (.dK vs) ∧ RpK K W.F vs kvs := by
  rcases r with r | ⟨p, vs, ds', rfl, e, h1, h2⟩ | ⟨p, vs, kvs', rfl, e, h1, h2⟩
  · cases r with
    | dicK q r =>
      rcases hs _ _ q with z | ⟨_, z⟩
      · exact ⟨_, _, rfl, .inl z, r⟩
      · exact ⟨_, _, rfl, .inr z, r⟩
  · cases e
  · cases e
    exact ⟨p, vs, rfl, h1, h2⟩
theorem RpH.tup {v : V} {ds : List PyData} (r : RpH K W H v (.tuple ds)) : ∃ p vs, v = .ref p ∧ TupP K W.F p vs ∧ RpA K W.F vs ds := by
  rcases r with r | ⟨p, vs, ds', rfl, e, h1, h2⟩ | ⟨p, vs, ds', rfl, e, h1, h2⟩
  · cases r with
    | tup q r => exact ⟨_, _, rfl, q, r⟩
  · cases e
  · cases e
theorem RpH.int {v : V} {i : Int} (r : RpH K W H v (.int i)) : v = .int i := by
  rcases r with r | ⟨p, vs, ds', rfl, e, h1, h2⟩ | ⟨p, vs, ds', rfl, e, h1, h2⟩
  · cases r
    rfl
  · cases e
  · cases e
theorem RpH.bool {v : V} {i : Bool} (r : RpH K W H v (.bool i)) : v = .bl i := by
  rcases r with r | ⟨p, vs, ds', rfl, e, h1, h2⟩ | ⟨p, vs, ds', rfl, e, h1, h2⟩
  · cases r
    rfl
  · cases e
  · cases e
theorem RpH.str {v : V} {i : Str} (r : RpH K W H v (.str i)) : v = .str i := by
  rcases r with r | ⟨p, vs, ds', rfl, e, h1, h2⟩ | ⟨p, vs, ds', rfl, e, h1, h2⟩
  · cases r
    rfl
  · cases e
  · cases e
theorem RpH.none {v : V} (r : RpH K W H v .none) : v = .non := by
  rcases r with r | ⟨p, vs, ds', rfl, e, h1, h2⟩ | ⟨p, vs, ds', rfl, e, h1, h2⟩
  · cases r
    rfl
  · cases e
  · cases e
theorem RpA.dp (hs : SubF W.F H) : ∀ {vs : List V} {ds : List PyData}, RpA K W.F vs ds → noDics ds = true → DpAll K H vs ds
  | _, _, .nil, _ => .nil
  | _, _, .cons (d := d) (ds := ds) q r, h => by
    have h : noDic d = true ∧ noDics ds = true := by simpa [noDics] using h
    exact .cons (Rp.dp hs d q h.1) (r.dp hs h.2)
theorem RpH.dp (hs : SubF W.F H) {v : V} {d : PyData} (r : RpH K W H v d) (h : noDic d = true) : Dp K H v d := by
  rcases r with r | ⟨p, vs, ds', rfl, e, h1, h2⟩ | ⟨p, vs, ds', rfl, e, h1, h2⟩
  · exact Rp.dp hs d r h
  · subst e
    exact .lst (.inl (.inl h1)) (h2.dp hs (by simpa [noDic] using h))
  · subst e
    cases h
theorem Wd.frz (h : Wd K W H S) {x : A} {v : V} {d : PyData} {S' : Sto} (r : Ra K W v x) (e : frz S x = some (d, S')) : ∃ W', Le W W' ∧ W'.ρ = W.ρ ∧ Wd K W' H S' ∧ Rp K W'.F v d := by
  cases x with
  | d y =>
    cases e
    exact ⟨W, .refl W, rfl, h, r⟩
  | obj k =>
    obtain ⟨a, e1, rfl⟩ := r
    obtain ⟨o, e2, q⟩ := h.at e1
    simp only [PV.frz, e2] at e
    cases o with
    | lst xs fz =>
      cases e
      obtain ⟨vs, W', le, eρ, wd, q1, q2⟩ := h.freeze e1 e2
      exact ⟨W', le, eρ, wd, .lst q1 q2⟩
    | dic kvs fz lk =>
      cases e
      obtain ⟨vs, W', le, eρ, wd, q1, q2⟩ := h.freezeD e1 e2
      exact ⟨W', le, eρ, wd, .dicK q1 q2⟩
    | ins _ _ => exact q.elim
  | pr _ _ => cases e
  | seq _ => cases e
theorem Wd.frzAll : ∀ {xs : List A} {vs : List V} {W : Wo} {S S' : Sto} {ds : List PyData}, Wd K W H S → RaA K W vs xs → frzAll xs S = some (ds, S') → ∃ W', Le W W' ∧ W'.ρ = W.ρ ∧ Wd K W' H S' ∧ RpA K W'.F vs ds
  | [], _, W, S, S', ds, h, .nil, e => by
    cases e
    exact ⟨W, .refl W, rfl, h, .nil⟩
  | x :: xs, _, W, S, S', ds, h, .cons q r, e => by
    unfold PV.frzAll at e
    split at e
    · cases e
    · rename_i d S1 e1
      split at e
      · cases e
      · rename_i ds' S2 e2
        cases e
        obtain ⟨W1, le1, eρ1, wd1, q1⟩ := h.frz q e1
        obtain ⟨W2, le2, eρ2, wd2, q2⟩ := wd1.frzAll (r.le le1) e2
        exact ⟨W2, le1.trans le2, eρ2.trans eρ1, wd2, .cons (q1.le le2.F) q2⟩
/-- behind a call: what it made for itself is forgotten -/
theorem Wd.gc {S1 S2 : Sto} {W2 : Wo} {r : A} {v : V} (l1 : W.ρ.length = S1.length) (le : Le W W2) (h : Wd K W2 H S2) (q : Ra K W2 v r) : ∃ W3, Le W W3 ∧ Wd K W3 H (gc r S1 S2) ∧ Ra K W3 v r := by
  cases r with
  | d x =>
    simp only [PV.gc]
    split
    · rename_i hf
      refine ⟨⟨W2.F, W.ρ, W2.G, W2.L⟩, ⟨le.F, ⟨[], by simp⟩, le.G, le.L⟩, ⟨h.sub, ?_, ?_, fun k a o e1 e2 => ?_, fun b x e => ?_, h.lu⟩, q⟩
      · obtain ⟨m, e⟩ := le.ρ
        have := h.len
        rw [e, List.length_append] at this
        rw [List.length_take]
        show W.ρ.length = _
        omega
      · obtain ⟨m, e⟩ := le.ρ
        have := h.nd
        rw [e] at this
        exact (List.nodup_append.mp this).1
      · have e1 : W.ρ[k]? = some a := e1
        have ho : o.flat = true := List.all_eq_true.mp hf o (List.mem_of_getElem? e2)
        have hk : k < S1.length := by
          rcases Nat.lt_or_ge k S1.length with q | q
          · exact q
          · rw [List.getElem?_eq_none (by rw [List.length_take]; omega)] at e2
            cases e2
        rw [List.getElem?_take_of_lt hk] at e2
        have := h.ob k a o (le.get e1) e2
        exact this.stay (fun _ _ z => z) rfl fun z => z
      · obtain ⟨g1, g2, g3⟩ := h.gu b x e
        refine ⟨g1, g2, fun z => ?_⟩
        obtain ⟨m, em⟩ := le.ρ
        exact g3 (by rw [em]; exact List.mem_append_left _ z)
    · exact ⟨W2, le, h, q⟩
  | obj k => exact ⟨W2, le, h, q⟩
  | pr x y => exact ⟨W2, le, h, q⟩
  | seq x => exact ⟨W2, le, h, q⟩
/-- a cell is watched, and let go -/
theorem Wd.watch (h : Wd K W H S) (e : H p = some u) (n : W.F p = none) (ni : p ∉ W.ρ) : Wd K ⟨W.F, W.ρ, upd W.G p u, W.L⟩ H S := by
  refine ⟨h.sub, h.len, h.nd, fun j b o e1 e2 => (h.ob j b o e1 e2).stay (fun _ _ z => z) rfl fun z => z, fun b x eg => ?_, h.lu⟩
  have eg : upd W.G p u b = some x := eg
  by_cases hb : b = p
  · subst hb
    rw [upd_same] at eg
    cases eg
    exact ⟨e, n, ni⟩
  · rw [upd_ne hb] at eg
    exact h.gu b x eg
theorem Wd.unwatch {G : Hp} (h : Wd K W H S) (k : ∀ a u, G a = some u → W.G a = some u) : Wd K ⟨W.F, W.ρ, G, W.L⟩ H S :=
  ⟨h.sub, h.len, h.nd, fun j b o e1 e2 => (h.ob j b o e1 e2).stay (fun _ _ z => z) rfl fun z => z, fun b x eg => h.gu b x (k b x eg), h.lu⟩
end

/-! ### dicts -/
theorem RpK.keys {K : PySem.W.Frag} {F : Hp} : ∀ {vs : List (Key × V)} {kvs : List (PyData × PyData)}, RpK K F vs kvs → kvs.map (fun p => keyD p.1) = vs.map fun p => some p.1
  | _, _, .nil => rfl
  | _, _, .cons e _ r => by rw [List.map_cons, List.map_cons, e, r.keys]
theorem RpK.length {K : PySem.W.Frag} {F : Hp} : ∀ {vs : List (Key × V)} {kvs : List (PyData × PyData)}, RpK K F vs kvs → vs.length = kvs.length
  | _, _, .nil => rfl
  | _, _, .cons _ _ r => by rw [List.length_cons, List.length_cons, r.length]
theorem RpK.get {K : PySem.W.Frag} {F : Hp} {k : Key} {x : PyData} (hk : keyD x = some k) : ∀ {vs : List (Key × V)} {kvs : List (PyData × PyData)}, RpK K F vs kvs →
    (getP kvs x = none ∧ valV vs k = none) ∨ ∃ v d, getP kvs x = some d ∧ valV vs k = some v ∧ Rp K F v d
  | _, _, .nil => .inl ⟨rfl, rfl⟩
  | _, _, .cons (k := j) (x := y) e q r => by
    unfold getP
    rw [List.find?_cons]
    by_cases h : j = k
    · subst h
      rw [e, hk]
      simp only [decide_true, Option.map_some]
      exact .inr ⟨_, _, rfl, by rw [valV_pos rfl], q⟩
    · have n : decide (keyD y = keyD x) = false := by
        rw [e, hk]
        simpa using h
      simp only [n]
      rw [valV_neg (p := (j, _)) h]
      exact RpK.get hk r
theorem RpK.any {K : PySem.W.Frag} {F : Hp} {k : Key} {x : PyData} (hk : keyD x = some k) : ∀ {vs : List (Key × V)} {kvs : List (PyData × PyData)}, RpK K F vs kvs → (kvs.any fun p => decide (keyD p.1 = keyD x)) = vs.any fun p => decide (p.1 = k)
  | _, _, .nil => rfl
  | _, _, .cons (k := j) (x := y) e q r => by
    rw [List.any_cons, List.any_cons, RpK.any hk r]
    congr 1
    rw [e, hk]
    simp
theorem RpK.repl {K : PySem.W.Frag} {F : Hp} {k : Key} {x d : PyData} {v : V} (hk : keyD x = some k) (rv : Rp K F v d) : ∀ {vs : List (Key × V)} {kvs : List (PyData × PyData)}, RpK K F vs kvs → RpK K F (vs.map fun p => if p.1 = k then (p.1, v) else p) (kvs.map fun p => if keyD p.1 = keyD x then (p.1, d) else p)
  | _, _, .nil => .nil
  | _, _, .cons (k := j) (x := y) e q r => by
    rw [List.map_cons, List.map_cons]
    by_cases h : j = k
    · have n : keyD y = keyD x := by rw [e, hk, h]
      simp only [if_pos h, if_pos n]
      exact .cons e rv (RpK.repl hk rv r)
    · have n : ¬ keyD y = keyD x := by
        rw [e, hk]
        simpa using h
      simp only [if_neg h, if_neg n]
      exact .cons e q (RpK.repl hk rv r)
theorem RpK.snoc {K : PySem.W.Frag} {F : Hp} {k : Key} {x d : PyData} {v : V} (hk : keyD x = some k) (rv : Rp K F v d) : ∀ {vs : List (Key × V)} {kvs : List (PyData × PyData)}, RpK K F vs kvs → RpK K F (vs ++ [(k, v)]) (kvs ++ [(x, d)])
  | _, _, .nil => .cons hk rv .nil
  | _, _, .cons e q r => .cons e q (RpK.snoc hk rv r)
theorem RpK.put {K : PySem.W.Frag} {F : Hp} {k : Key} {x d : PyData} {v : V} (hk : keyD x = some k) (rv : Rp K F v d) {vs : List (Key × V)} {kvs : List (PyData × PyData)} (r : RpK K F vs kvs) : RpK K F (putK vs k v) (putP kvs x d) := by
  unfold putK putP
  rw [r.any hk]
  split
  · exact r.repl hk rv
  · exact r.snoc hk rv
theorem RpK.drop {K : PySem.W.Frag} {F : Hp} {k : Key} {x : PyData} (hk : keyD x = some k) : ∀ {vs : List (Key × V)} {kvs : List (PyData × PyData)}, RpK K F vs kvs → RpK K F (dropK vs k) (dropP kvs x)
  | _, _, .nil => .nil
  | _, _, .cons (k := j) (x := y) e q r => by
    have ih := RpK.drop hk r
    unfold dropK dropP at ih ⊢
    rw [List.filter_cons, List.filter_cons]
    by_cases h : j = k
    · have n : decide (keyD y ≠ keyD x) = false := by simp [e, hk, h]
      have m : decide (j ≠ k) = false := by simpa using h
      simp only [n, m]
      exact ih
    · have n : decide (keyD y ≠ keyD x) = true := by
        rw [e, hk]
        simpa using h
      have m : decide (j ≠ k) = true := by simpa using h
      simp only [n, m, if_true]
      exact .cons e q ih
theorem RpK.merge {K : PySem.W.Frag} {F : Hp} : ∀ {ms : List (Key × V)} {mds : List (PyData × PyData)} {vs : List (Key × V)} {kvs : List (PyData × PyData)}, RpK K F ms mds → RpK K F vs kvs → RpK K F (mergeK vs ms) (mergeP kvs mds)
  | _, _, _, _, .nil, r => r
  | (k, v) :: ms, (x, d) :: mds, vs, kvs, .cons e q m, r => by
    have := RpK.merge (ms := ms) (mds := mds) (vs := putK vs k v) (kvs := putP kvs x d) m (r.put e q)
    exact this
theorem RpK.at {K : PySem.W.Frag} {F : Hp} : ∀ {vs : List (Key × V)} {kvs : List (PyData × PyData)} {i : Nat} {p : PyData × PyData}, RpK K F vs kvs → kvs[i]? = some p → ∃ k v, vs[i]? = some (k, v) ∧ keyD p.1 = some k ∧ Rp K F v p.2
  | _, _, _, _, .nil, e => by simp at e
  | _, _, 0, _, .cons e q r, h => by
    simp at h
    subst h
    exact ⟨_, _, rfl, e, q⟩
  | _, _, i + 1, p, .cons _ _ r, h => by
    obtain ⟨k, v, h1, h2, h3⟩ := RpK.at (i := i) (p := p) r (by simpa using h)
    exact ⟨k, v, by simpa using h1, h2, h3⟩
theorem keyD_kV {K : PySem.W.Frag} {F : Hp} {x : PyData} {k : Key} {v : V} (hk : keyD x = some k) (r : Rp K F v x) : v = kV k := by
  cases r with
  | int i =>
    cases hk
    rfl
  | str z =>
    cases hk
    rfl
  | _ => cases hk
theorem RpH.key {K : PySem.W.Frag} {W : Wo} {H : Hp} {x : PyData} {k : Key} {v : V} (r : RpH K W H v x) (hk : keyD x = some k) : v = kV k := by
  rcases r with r | ⟨p, vs, ds', rfl, e, h1, h2⟩ | ⟨p, vs, ds', rfl, e, h1, h2⟩
  · exact keyD_kV hk r
  · subst e
    cases hk
  · subst e
    cases hk
theorem rp_kV {K : PySem.W.Frag} {F : Hp} {x : PyData} {k : Key} (hk : keyD x = some k) : Rp K F (kV k) x := by
  cases x with
  | int i =>
    cases hk
    exact .int i
  | str z =>
    cases hk
    exact .str z
  | _ => cases hk
/-- a dict of the store is locked, and let go -/
theorem Wd.lock {K : PySem.W.Frag} {W : Wo} {H : Hp} {S : Sto} {p : Addr} {o : PySem.Obj} {k : Nat} {kvs : List (PyData × PyData)} (h : Wd K W H S) (e : W.ρ[k]? = some p) (es : S[k]? = some (.dic kvs false false)) :
    ∃ vs, H p = some (.dK vs) ∧ RpK K W.F vs kvs ∧ W.F p = none ∧ W.L p = none ∧ Wd K ⟨W.F, W.ρ, W.G, upd W.L p (.frz o (.dK vs))⟩ (upd H p (.frz o (.dK vs))) (S.set k (.dic kvs false true)) ∧ Le W ⟨W.F, W.ρ, W.G, upd W.L p (.frz o (.dK vs))⟩ := by
  obtain ⟨vs, h1, h2, h3⟩ := h.ob k p _ e es
  have nF : W.F p = none := by simpa using h3
  have hp : H p = some (.dK vs) := by
    rcases h1 with h1 | ⟨z, _⟩
    · exact h1
    · rcases z with z | z <;> cases z
  have nL : W.L p = none := h.notL hp rfl
  have w := h.write (u := .frz o (.dK vs)) e nF nL (o' := .dic kvs false true) ⟨vs, .inr ⟨.inr rfl, o, upd_same⟩, h2, by simpa using nF⟩
  refine ⟨vs, hp, h2, nF, nL, ⟨w.sub, w.len, w.nd, fun j b x e1 e2 => (w.ob j b x e1 e2).stay (fun _ _ z => z) rfl fun z => z, w.gu, fun a x e => ?_⟩, ⟨fun _ _ z => z, ⟨[], by simp⟩, rfl, fun a x e => ?_⟩⟩
  · have e : upd W.L p (.frz o (.dK vs)) a = some x := e
    by_cases ha : a = p
    · subst ha
      rw [upd_same] at e ⊢
      cases e
      exact ⟨rfl, rfl⟩
    · rw [upd_ne ha] at e ⊢
      exact h.lu a x e
  · show upd W.L p _ a = some x
    rw [upd_ne (ne_of_none (H := W.L) e nL)]
    exact e
theorem Wd.unlock {K : PySem.W.Frag} {W : Wo} {H : Hp} {S : Sto} {p : Addr} {o : PySem.Obj} {k : Nat} {vs : List (Key × V)} {L : Hp} (h : Wd K W H S) (e : W.ρ[k]? = some p) (hl : W.L p = some (.frz o (.dK vs))) (sub : ∀ a u, L a = some u → W.L a = some u) (n : L p = none) :
    H p = some (.frz o (.dK vs)) ∧ Wd K ⟨W.F, W.ρ, W.G, L⟩ (upd H p (.dK vs)) (unlF (some k) S) := by
  obtain ⟨hp, _⟩ := h.lu p _ hl
  refine ⟨hp, ?_⟩
  obtain ⟨ob, es, r⟩ := h.at e
  cases ob with
  | lst xs fz =>
    obtain ⟨ws, h1, _⟩ := r
    rw [hp] at h1
    cases h1
  | ins _ _ => exact r.elim
  | dic kvs fz lk =>
    obtain ⟨ws, h1, h2, h3⟩ := r
    have ew : ws = vs := by
      rcases h1 with h1 | ⟨_, o', h1⟩
      · rw [hp] at h1
        cases h1
      · rw [hp] at h1
        cases h1
        rfl
    subst ew
    have hlen : k < S.length := by
      rcases Nat.lt_or_ge k S.length with q | q
      · exact q
      · rw [List.getElem?_eq_none q] at es
        cases es
    simp only [unlF, es]
    refine ⟨fun a u eu => ?_, by rw [List.length_set]; exact h.len, h.nd, fun j b x e1 e2 => ?_, fun a u eg => ?_, fun a u el => ?_⟩
    · by_cases ha : a = p
      · subst ha
        rw [upd_same]
        have eu : W.F a = some u := eu
        rw [eu] at h3
        cases fz with
        | true =>
          cases h3
          exact .inl rfl
        | false => cases h3
      · rw [upd_ne ha]
        exact h.sub a u eu
    · by_cases hj : j = k
      · subst hj
        have e1 : W.ρ[j]? = some b := e1
        rw [e] at e1
        cases e1
        rw [List.getElem?_set_self hlen] at e2
        cases e2
        exact ⟨ws, .inl upd_same, h2, h3⟩
      · rw [List.getElem?_set_ne (Ne.symm hj)] at e2
        have e1 : W.ρ[j]? = some b := e1
        have nb : b ≠ p := fun z => by
          subst z
          exact hj (ix_inj h.nd e1 e)
        exact (h.ob j b x e1 e2).stay (fun _ _ z => z) (upd_ne nb) fun z => z
    · obtain ⟨g1, g2, g3⟩ := h.gu a u eg
      exact ⟨(upd_ne fun z => g3 (by rw [z]; exact List.mem_of_getElem? e)).trans g1, g2, g3⟩
    · have el : L a = some u := el
      have na : a ≠ p := ne_of_none (H := L) el n
      rw [upd_ne na]
      exact h.lu a u (sub a u el)
/-! ### slots -/
structure Re (K : PySem.W.Frag) (W : Wo) (σ : L2.St) (env : En) : Prop where
  len : σ.length = env.length
  at_ : ∀ (i : Nat) (a : A), env[i]? = some (some a) → ∃ v, σ[i]? = some (some v) ∧ Ra K W v a
section
variable {K : PySem.W.Frag} {W W' : Wo} {σ : L2.St} {env : En}
theorem Re.le (h : Re K W σ env) (l : Le W W') : Re K W' σ env := ⟨h.len, fun i a e => let ⟨v, e1, r⟩ := h.at_ i a e; ⟨v, e1, r.le l⟩⟩
theorem Re.set (h : Re K W σ env) (i : Nat) {v : V} {a : A} (r : Ra K W v a) : Re K W (σ.set i (some v)) (env.set i (some a)) := by
  refine ⟨by rw [List.length_set, List.length_set]; exact h.len, fun j b e => ?_⟩
  by_cases hj : j = i
  · subst hj
    have hl : j < env.length := by
      rcases Nat.lt_or_ge j env.length with q | q
      · exact q
      · rw [List.getElem?_eq_none (by rw [List.length_set]; exact q)] at e
        cases e
    rw [List.getElem?_set_self hl] at e
    cases e
    exact ⟨v, List.getElem?_set_self (by rw [h.len]; exact hl), r⟩
  · rw [List.getElem?_set_ne (Ne.symm hj)] at e
    obtain ⟨w, e1, q⟩ := h.at_ j b e
    exact ⟨w, by rw [List.getElem?_set_ne (Ne.symm hj)]; exact e1, q⟩
theorem Re.forget (h : Re K W σ env) (i : Nat) : Re K W σ (env.set i none) := by
  refine ⟨by rw [List.length_set]; exact h.len, fun j b e => ?_⟩
  by_cases hj : j = i
  · subst hj
    by_cases hl : j < env.length
    · rw [List.getElem?_set_self hl] at e
      cases e
    · rw [List.getElem?_eq_none (by rw [List.length_set]; omega)] at e
      cases e
  · rw [List.getElem?_set_ne (Ne.symm hj)] at e
    exact h.at_ j b e
theorem Re.forgetAll (h : Re K W σ env) : ∀ l : List Nat, Re K W σ (wipeE env l)
  | [] => h
  | i :: l => (h.forgetAll l).forget i
theorem Re.wipe (h : Re K W σ env) : ∀ l : List Nat, Re K W (wipe σ l) (wipeE env l)
  | [] => h
  | i :: l => by
    have ih := h.wipe l
    refine ⟨by unfold L2.wipe wipeE; rw [List.length_set, List.length_set]; exact ih.len, fun j b e => ?_⟩
    unfold wipeE at e
    by_cases hj : j = i
    · subst hj
      by_cases hl : j < (wipeE env l).length
      · rw [List.getElem?_set_self hl] at e
        cases e
      · rw [List.getElem?_eq_none (by rw [List.length_set]; omega)] at e
        cases e
    · rw [List.getElem?_set_ne (Ne.symm hj)] at e
      obtain ⟨w, e1, q⟩ := ih.at_ j b e
      exact ⟨w, by unfold L2.wipe; rw [List.getElem?_set_ne (Ne.symm hj)]; exact e1, q⟩
theorem Re.start {vs : List V} {as : List A} (r : RaA K W vs as) (n : Nat) : Re K W (vs.map some ++ List.replicate n none) (as.map some ++ List.replicate n none) := by
  refine ⟨by simp [r.length], ?_⟩
  induction r with
  | nil =>
    intro i a e
    simp only [List.map_nil, List.nil_append] at e
    rw [List.getElem?_replicate] at e
    split at e <;> cases e
  | cons q r ih =>
    intro i a e
    cases i with
    | zero =>
      simp at e
      subst e
      exact ⟨_, by simp, q⟩
    | succ i => exact ih i a (by simpa using e)
end
end PV

/-! PW1: new tuples, told with their objects (so that it is known that they have no attributes). -/
namespace PV
open PySem PySem.Spec PyProof.Rows L2
section
variable {X : Cx} {pins : List (Addr × PySem.Obj)} {σ : L2.St} {H : Hp} {s : Shared} {Q : VK}
theorem laidP {us : List Value} {xs : List V} {t' : Nat} (I : Inv X pins σ H s) (r : Vals xs us) (hz : xs.length ≤ sizeLine) (q : NT H xs Q) :
    EP X pins σ Q (.ref s.heap.objs.size) { s with heap := s.heap.push { cls := .type "tuple", data := .seq us.toArray }, toks := t' } :=
  ⟨.ref s.heap.objs.size, _, I.laid (t' := t') (o := .frz { cls := .type "tuple", data := .seq us.toArray } (.tup xs)) (fun b u e => Heap.get?_push_of_some _ e) (Nat.le_refl _)
    ⟨Heap.get?_push_size _ rfl, hz, us, r, ⟨_, Heap.get?_push_size _ rfl, rfl, _, rfl⟩⟩, rfl, q _ _ (I.hok.fresh (Nat.le_refl _)) rfl⟩
theorem pe_tupP {es : List Expr} {t : TA} {pos : Pos} {k : Nat} (h : PA X es t) : PE X (.Tuple es k pos) (fun σ H Q => t σ H fun xs H1 => xs.length ≤ sizeLine ∧ NT H1 xs Q) := by
  refine ⟨fun pins s σ H Q I hq => ?_⟩
  refine wpAny_Tuple_spliced (thn (h.run pos pins s σ H _ I hq) fun us s1 ⟨xs, H1, I1, r, z, q⟩ => ⟨by rw [← r.length]; exact z, ?_⟩)
  exact laidP (t' := s1.toks) I1 r z q
theorem catP : OpR X (binaryOp .Add) (fun x y H Q => ∃ a b xs ys, x = .ref a ∧ y = .ref b ∧ SqT X.K H a xs ∧ SqT X.K H b ys ∧ xs.length + ys.length ≤ sizeLine ∧
    (xs = [] → Q (.ref b) H) ∧ (xs ≠ [] → ys = [] → Q (.ref a) H) ∧ (xs ≠ [] → ys ≠ [] → NT H (xs ++ ys) Q)) := by
  intro pins s σ H x y v u Q I rx ry h
  obtain ⟨a, b, xs, ys, rfl, rfl, ha, hb, hz, q0, q1, q2⟩ := h
  cases rx
  cases ry
  obtain ⟨us, r1, p1, _⟩ := I.tuple ha
  obtain ⟨ws, r2, p2, _⟩ := I.tuple hb
  by_cases hx : xs = []
  · subst hx
    cases r1
    exact cat_tup0 p1 p2 ⟨.ref b, H, I, rfl, q0 rfl⟩
  · refine HT.cat_tup p1 p2 (fun z => hx (r1.nil_iff.mp z)) (fun z => ⟨.ref a, H, I, rfl, q1 hx (r2.nil_iff.mp z)⟩) (fun z => ?_) (by rw [← r1.length, ← r2.length]; exact hz)
    exact laidP (t' := s.toks) I (r1.append r2) (by rw [List.length_append]; exact hz) (q2 hx fun w => z (r2.nil_iff.mpr w))
theorem sl_tupP : SlR X (fun x lo hi H Q => ∃ a xs, x = .ref a ∧ SqT X.K H a xs ∧ (HT.sIx xs.length 0 lo = 0 ∧ HT.sIx xs.length xs.length hi = xs.length → Q (.ref a) H) ∧
    (¬ (HT.sIx xs.length 0 lo = 0 ∧ HT.sIx xs.length xs.length hi = xs.length) → NT H (cutV xs lo hi) Q)) := by
  intro pins s σ H x v vl vu lo hi sl Q I rx hs pl pu h
  obtain ⟨a, xs, rfl, hx, q1, q2⟩ := h
  cases rx
  obtain ⟨us, r, ht, hz⟩ := I.tuple hx
  have hl : us.toArray.size = xs.length := by rw [List.size_toArray]; exact r.length.symm
  refine ⟨"tuple", _, PyProof.Rows.slot_tuple_getitem.lookup, ht.typeIs, ?_⟩
  by_cases hw : HT.sIx xs.length 0 lo = 0 ∧ HT.sIx xs.length xs.length hi = xs.length
  · exact getItem_tuple_whole ht hs pl pu (by rw [hl]; exact hw) ⟨.ref a, H, I, rfl, q1 hw⟩
  · refine HT.getItem_tuple_cut ht hs pl pu (by rw [hl]; exact hw) ?_ (by rw [hl]; exact hz)
    rw [hl]
    exact laidP (t' := s.toks) I ((r.drop (HT.sIx xs.length 0 lo)).take (HT.sIx xs.length xs.length hi - HT.sIx xs.length 0 lo)) (Nat.le_trans (cutV_length xs lo hi) hz) (q2 hw)
theorem call_tupP : CallR X (.type "tuple") (fun xs H Q => ∃ p ys, xs = [.ref p] ∧ ((SqL X.K H p ys ∧ NT H ys Q) ∨ (SqT X.K H p ys ∧ Q (.ref p) H))) := by
  intro pins s σ H xs us Q I r h
  obtain ⟨p, ys, rfl, h⟩ := h
  obtain ⟨u, rfl, rx⟩ := vals1 r
  cases rx
  rcases h with ⟨hq, q⟩ | ⟨hq, q⟩
  · obtain ⟨ws, r', pl, hz⟩ := I.list hq
    have hlen := r'.length
    refine call_tuple_list pl.isList (fun h' kp => ?_) (by simp only [List.size_toArray] <;> omega)
    have I1 : Inv X pins σ H { s with heap := h' } := I.kept (t' := s.toks) kp
    exact laidP (s := { s with heap := h' }) (t' := s.toks) I1 r' hz q
  · obtain ⟨ws, r', pl, hz⟩ := I.tuple hq
    exact call_tuple_same pl ⟨.ref p, H, I, rfl, q⟩
theorem repP : OpR X (binaryOp .Mult) (fun x y H Q => ∃ (l : Addr) (k : Int) (xs : List V), x = .ref l ∧ y = .int k ∧ SqT X.K H l xs ∧ xs ≠ [] ∧ 2 ≤ k ∧ k ≤ 1000 ∧ xs.length ≤ 1000 ∧ NT H (List.replicate k.toNat xs).flatten Q) := by
  intro pins s σ H x y v u Q I rx ry h
  obtain ⟨l, k, xs, rfl, rfl, hT, hne, h1, h2, hz, q⟩ := h
  cases rx
  obtain ⟨t, rfl⟩ := ry
  obtain ⟨us, r, ⟨⟨cl, di, da, sl⟩, ho, hc, n, hd⟩, hs⟩ := I.tuple hT
  simp only at hc hd
  subst hc hd
  have hle : us.length = xs.length := r.length.symm
  have hi : us.toArray.isEmpty = false := by
    cases us with
    | nil => exact absurd (List.eq_nil_of_length_eq_zero hle.symm) hne
    | cons a b => rfl
  have sz : us.toArray.size = xs.length := by rw [List.size_toArray, hle]
  have kx : k.toNat * xs.length ≤ 1000 * 1000 := Nat.mul_le_mul (by omega) hz
  have hm : ((us.toArray.size : Nat) : Int) * k ≤ 1000000 := by
    rw [sz]
    have : ((xs.length : Nat) : Int) * k ≤ 1000 * k := Int.mul_le_mul_of_nonneg_right (by omega) (by omega)
    omega
  have fl : (List.replicate k.toNat us).flatten.length ≤ sizeLine := by
    rw [PyProof.Rows.lm_len_rep_flat, hle, sizeLine_eq]
    omega
  have c0 : (decide (k < -(2 ^ 63)) || decide (k ≥ 2 ^ 63)) = false := by
    rw [decide_eq_false (by omega), decide_eq_false (by omega)] <;> rfl
  have c1 : (us.toArray.isEmpty || k == 1) = false := by
    rw [hi, Bool.false_or]
    exact beq_eq_false_iff_ne.mpr (by omega)
  have c2 : (decide (k ≤ 0) || us.toArray.isEmpty) = false := by
    rw [hi, Bool.or_false]
    exact decide_eq_false (by omega)
  have c4 : Builtin.Tuple.tupleTooMany (((us.toArray.size : Nat) : Int) * k) = false := by
    unfold Builtin.Tuple.tupleTooMany
    rw [sizeLine_eq]
    exact decide_eq_false (by omega)
  refine wpAny_binaryOp_repeat_ref (T := "tuple") (U := "int") (by decide) ⟨_, ho, rfl⟩ (fun s' => typeIs_int s' k t) noFill_tuple_mul F.fills_int_mul F.slot_int_rmul repeat_tuple F.slot_int_index.lookup ?_
  refine call_meets F.slot_int_rmul (typeIs_int s k t) F.entry_int_rmul (F.args_int_rmul_2 _ _) (int_rmul_tuple k t l us.toArray n di sl) ⟨ho, rfl, ⟨_, ho, rfl⟩, ?_⟩
  refine call_meets F.slot_tuple_mul ⟨_, ho, rfl⟩ F.entry_tuple_mul (F.args_tuple_mul_2 _ _) (tuple_mulW l us.toArray n di sl k t c0 c1 c2 (by omega) c4 (by rw [size_rep, List.size_toArray]; exact fl)) ⟨ho, ?_⟩
  rw [size_rep]
  exact laidP (t' := s.toks) I (r.rep k.toNat) (by rw [PyProof.Rows.lm_len_rep_flat, sizeLine_eq]; omega) q
end

end PV

/-! PV3: the operations, by values. -/
namespace PV
open PySem PySem.Spec PyProof.Rows L2

/-- what follows with c -/
def Kt (K : PySem.W.Frag) (W : Wo) (S : Sto) (c : A) (Q : VK) : Prop := ∀ W' v H', Le W W' → Wd K W' H' S → Ra K W' v c → Q v H'
section
variable {K : PySem.W.Frag} {W : Wo} {H : Hp} {S : Sto} {Q : VK} {x : PyData} {p : Addr} {v : V}
theorem Kt.flat (q : Kt K W S (.d x) Q) (wd : Wd K W H S) (r : Rp K W.F v x) : Q v H := q W v H (.refl W) wd r
theorem Kt.newT {vs : List V} {ds : List PyData} (q : Kt K W S (.d (.tuple ds)) Q) (wd : Wd K W H S) (r : RpA K W.F vs ds) : NT H vs Q := fun p o n ho =>
  q _ _ _ (Le.upd (wd.freeF n)) (wd.pure n) (.tup (.inl ⟨o, upd_same, ho⟩) (r.le (leF_upd (wd.freeF n))))
theorem Kt.newD {vs : List (Key × V)} {ds : List (PyData × PyData)} (q : Kt K W S (.d (.dict ds)) Q) (wd : Wd K W H S) (r : RpK K W.F vs ds) (n : H p = none) : Q (.ref p) (upd H p (.dK vs)) :=
  q _ _ _ (Le.upd (wd.freeF n)) (wd.pure n) (.dicK upd_same (r.le (leF_upd (wd.freeF n))))
theorem Kt.newL {vs : List V} {ds : List PyData} (q : Kt K W S (.d (.list ds)) Q) (wd : Wd K W H S) (r : RpA K W.F vs ds) (n : H p = none) : Q (.ref p) (upd H p (.lst vs)) :=
  q _ _ _ (Le.upd (wd.freeF n)) (wd.pure n) (.lst upd_same (r.le (leF_upd (wd.freeF n))))
end
/-- two values and the store give a value -/
def rB (K : PySem.W.Frag) (g : A → A → Sto → Option A) : R2 := fun x y H Q => ∃ W S a b c, Wd K W H S ∧ Ra K W x a ∧ Ra K W y b ∧ g a b S = some c ∧ Kt K W S c Q
def rL (K : PySem.W.Frag) (g : List A → Sto → Option A) : List V → Hp → VK → Prop := fun vs H Q => ∃ W S as c, Wd K W H S ∧ RaA K W vs as ∧ g as S = some c ∧ Kt K W S c Q
theorem szl {n : Nat} (h : n ≤ 16777216) : n ≤ sizeLine := by rw [sizeLine_eq]; exact h
section
variable {X : Cx}

/-! ### + - * % // ** -/
theorem binI_ok {o : Operator} {i j r : Int} (e : binI o i j = some r) {pins : List (Addr × Obj)} {s : Shared} {σ : L2.St} {H : Hp} {v u : Value} {Q : VK} (I : Inv X pins σ H s) (rx : RelV (.int i) v) (ry : RelV (.int j) u) (q : Q (.int r) H) :
    wpAny (model X.prog X.w) X.A (binaryOp o v u) (EP X pins σ Q) X.xe s := by
  cases o with
  | Add =>
    cases e
    exact op_add pins s σ H _ _ v u Q I rx ry ⟨i, j, rfl, rfl, q⟩
  | Sub =>
    cases e
    exact op_sub pins s σ H _ _ v u Q I rx ry ⟨i, j, rfl, rfl, q⟩
  | Mult =>
    simp only [binI] at e
    split at e
    · rename_i hm
      cases e
      exact op_mul pins s σ H _ _ v u Q I rx ry ⟨i, j, rfl, rfl, of_decide_eq_true (p := (-(2 ^ 64) < i ∧ i < 2 ^ 64) ∨ (-(2 ^ 64) < j ∧ j < 2 ^ 64)) hm, q⟩
    · cases e
  | Mod =>
    simp only [binI] at e
    split at e
    · rename_i hm
      cases e
      exact op_modN pins s σ H _ _ v u Q I rx ry ⟨i, j, rfl, rfl, hm, q⟩
    · cases e
  | FloorDiv =>
    simp only [binI] at e
    split at e
    · rename_i hm
      cases e
      exact op_fdivN pins s σ H _ _ v u Q I rx ry ⟨i, j, rfl, rfl, hm, q⟩
    · cases e
  | Pow =>
    simp only [binI] at e
    split at e
    · rename_i hm
      cases e
      exact op_pow pins s σ H _ _ v u Q I rx ry ⟨i, j, rfl, rfl, hm, q⟩
    · cases e
  | _ => cases e
theorem op_bin (o : Operator) : OpR X (binaryOp o) (rB X.K (binF o)) := by
  intro pins s σ H x y v u Q I rx ry ⟨W, S, a, b, c, wd, ra, rb, e, q⟩
  simp only [binF] at e
  split at e
  · rename_i dx dy e1 e2
    have px := wd.deref ra e1
    have py := wd.deref rb e2
    cases eb : binD o dx dy with
    | none =>
      rw [eb] at e
      cases e
    | some d =>
      rw [eb] at e
      cases e
      unfold binD at eb
      split at eb
      · cases px.int
        cases py.int
        rename_i i j
        cases er : binI o i j with
        | none =>
          rw [er] at eb
          cases eb
        | some r =>
          rw [er] at eb
          cases eb
          exact binI_ok er I rx ry (q.flat wd (.int r))
      · cases px.str
        cases py.str
        split at eb
        · rename_i h
          cases eb
          obtain ⟨rfl, h⟩ := h
          exact op_add_str pins s σ H _ _ v u Q I rx ry ⟨_, _, rfl, rfl, szl h, q.flat wd (.str _)⟩
        · cases eb
      · obtain ⟨p1, vs, rfl, h1, r1⟩ := px.list wd.sub
        obtain ⟨p2, ws, rfl, h2, r2⟩ := py.list wd.sub
        split at eb
        · rename_i h
          cases eb
          obtain ⟨rfl, h⟩ := h
          exact op_cat pins s σ H _ _ v u Q I rx ry ⟨p1, p2, vs, ws, rfl, rfl, h1, h2, by rw [r1.length, r2.length]; exact szl h, fun p n => q.newL wd (r1.append r2) n⟩
        · cases eb
      · obtain ⟨p1, vs, rfl, h1, r1⟩ := px.tup
        obtain ⟨p2, ws, rfl, h2, r2⟩ := py.tup
        split at eb
        · rename_i h
          cases eb
          obtain ⟨rfl, h⟩ := h
          refine catP pins s σ H _ _ v u Q I rx ry ⟨p1, p2, vs, ws, rfl, rfl, (wd.sub.tupP h1).seq, (wd.sub.tupP h2).seq, by rw [r1.length, r2.length]; exact szl h, ?_⟩
          have rr := r1.append r2
          refine ⟨fun e => ?_, fun e1 e2 => ?_, fun e1 e2 => q.newT wd rr⟩
          · subst e
            exact q.flat wd (.tup h2 (by simpa using rr))
          · subst e2
            exact q.flat wd (.tup h1 (by simpa using rr))
        · cases eb
      · obtain ⟨p1, vs, rfl, h1, r1⟩ := px.list wd.sub
        cases py.int
        split at eb
        · rename_i h
          cases eb
          obtain ⟨rfl, k1, k2, k3⟩ := h
          exact op_rep pins s σ H _ _ v u Q I rx ry ⟨p1, _, vs, rfl, rfl, h1, k1, k2, by rw [r1.length]; exact szl k3, fun p n => q.newL wd (r1.rep _) n⟩
        · cases eb
      · obtain ⟨p1, vs, rfl, h1, r1⟩ := px.tup
        cases py.int
        split at eb
        · rename_i h
          cases eb
          obtain ⟨rfl, k0, k1, k2, k3⟩ := h
          refine repP pins s σ H _ _ v u Q I rx ry ⟨p1, _, vs, rfl, rfl, (wd.sub.tupP h1).seq, ?_, k1, k2, by rw [r1.length]; exact k3, q.newT wd (r1.rep _)⟩
          intro z
          subst z
          have := r1.length
          exact k0 (List.eq_nil_of_length_eq_zero this.symm)
        · cases eb
      · cases eb
  · cases e
theorem op_neg {pins : List (Addr × Obj)} {s : Shared} {σ : L2.St} {H : Hp} {i : Int} {v : Value} {Q : VK} (I : Inv X pins σ H s) (rx : RelV (.int i) v) (q : Q (.int (-i)) H) : wpAny (model X.prog X.w) X.A (unaryOp .USub v) (EP X pins σ Q) X.xe s :=
  un_neg pins s σ H _ v Q I rx ⟨i, rfl, q⟩

/-! ### comparisons -/
mutual
theorem ltB_eq : ∀ (x y : PyData), PySem.W.alike x y = true → ltB x y = PySem.W.dataLt x y
  | .none, y, h => by
    cases y with
    | none => rfl
    | _ => exact absurd h (by simp [PySem.W.alike])
  | .bool a, y, h => by
    cases y with
    | bool b =>
      rw [PySem.W.dataLt_bool]
      cases a <;> cases b <;> rfl
    | _ => exact absurd h (by simp [PySem.W.alike])
  | .int a, y, h => by
    cases y with
    | int b =>
      rw [PySem.W.dataLt_int]
      rfl
    | _ => exact absurd h (by simp [PySem.W.alike])
  | .str a, y, h => by
    cases y with
    | str b =>
      rw [PySem.W.dataLt_str]
      rfl
    | _ => exact absurd h (by simp [PySem.W.alike])
  | .list xs, y, h => by
    cases y with
    | list ys =>
      rw [PySem.W.dataLt_list]
      exact ltBs_eq xs ys (by simpa [PySem.W.alike] using h)
    | _ => exact absurd h (by simp [PySem.W.alike])
  | .tuple xs, y, h => by
    cases y with
    | tuple ys =>
      rw [PySem.W.dataLt_tuple]
      exact ltBs_eq xs ys (by simpa [PySem.W.alike] using h)
    | _ => exact absurd h (by simp [PySem.W.alike])
  | .dict _, y, h => absurd h (by cases y <;> simp [PySem.W.alike])
theorem ltBs_eq : ∀ (xs ys : List PyData), PySem.W.alikeAll xs ys = true → ltBs xs ys = PyProof.Rows.lexLt PyProof.Rows.itemOrd (PySem.W.keyToksAll xs) (PySem.W.keyToksAll ys)
  | [], [], _ => rfl
  | [], y :: ys, _ => rfl
  | x :: xs, [], _ => rfl
  | x :: xs, y :: ys, h => by
    have h := PySem.W.alike_all_cons h
    rw [PySem.W.dataLt_cons h.1 xs ys]
    simp only [ltBs]
    rw [ltBs_eq xs ys h.2, ltB_eq x y h.1]
end
end
end PV

/-! PV4: comparisons, items, slices, the built-ins, by values. -/
namespace PV
open PySem PySem.Spec PyProof.Rows L2
section
variable {X : Cx} {pins : List (Addr × Obj)} {s : Shared} {σ : L2.St} {H : Hp} {Q : VK} {W : Wo} {S : Sto}
theorem RpH.reads (I : Inv X pins σ H s) (hs : SubF W.F H) {d : PyData} {v : V} {u : Value} (r : RpH X.K W H v d) (ru : RelV v u) (h : noDic d = true) : ∃ as, Reads s.heap u d as := Dp.reads I d v u (r.dp hs h) ru
theorem noDic_shaped {d : PyData} (h : SeqAt.shaped d = true) : noDic d = true := noDic_lay d (SeqAt.canLay_of_shaped h)
theorem RpH.atom {x : PyData} {v : V} (r : RpH X.K W H v x) (h : atomD x = true) : (x = .none ∧ v = .non) ∨ (∃ b, x = .bool b ∧ v = .bl b) ∨ (∃ i, x = .int i ∧ v = .int i) ∨ ∃ z, x = .str z ∧ v = .str z := by
  cases x with
  | none => exact .inl ⟨rfl, r.none⟩
  | bool b => exact .inr (.inl ⟨b, rfl, r.bool⟩)
  | int i => exact .inr (.inr (.inl ⟨i, rfl, r.int⟩))
  | str z => exact .inr (.inr (.inr ⟨z, rfl, r.str⟩))
  | _ => cases h

/-! ### == and != -/
theorem eq_ok {x y : PyData} {c : Bool} (hu : X.A.units + 64 < cLine) (I : Inv X pins σ H s) (wd : Wd X.K W H S) {vx vy : V} {v u : Value} (px : RpH X.K W H vx x) (py : RpH X.K W H vy y) (rx : RelV vx v) (ry : RelV vy u) (e : eqvD x y = some c) :
    (Q (.bl c) H → wpAny (model X.prog X.w) X.A (compareOp .Eq v u) (EP X pins σ Q) X.xe s) ∧ (Q (.bl (!c)) H → wpAny (model X.prog X.w) X.A (compareOp .NotEq v u) (EP X pins σ Q) X.xe s) := by
  unfold eqvD at e
  split at e
  · rename_i ok
    cases e
    have viaD : SeqAt.shaped x = true → SeqAt.shaped y = true → (Q (.bl (PyData.eqv x y)) H → wpAny (model X.prog X.w) X.A (compareOp .Eq v u) (EP X pins σ Q) X.xe s) ∧ (Q (.bl (!PyData.eqv x y)) H → wpAny (model X.prog X.w) X.A (compareOp .NotEq v u) (EP X pins σ Q) X.xe s) := fun h1 h2 =>
      ⟨fun q => op_eqD hu pins s σ H _ _ v u Q I rx ry ⟨x, y, px.dp wd.sub (noDic_shaped h1), py.dp wd.sub (noDic_shaped h2), h1, h2, q⟩,
       fun q => op_neD hu pins s σ H _ _ v u Q I rx ry ⟨x, y, px.dp wd.sub (noDic_shaped h1), py.dp wd.sub (noDic_shaped h2), h1, h2, q⟩⟩
    have viaS : scal vx vy = true → PyData.eqv x y = decide (vx = vy) → (Q (.bl (PyData.eqv x y)) H → wpAny (model X.prog X.w) X.A (compareOp .Eq v u) (EP X pins σ Q) X.xe s) ∧ (Q (.bl (!PyData.eqv x y)) H → wpAny (model X.prog X.w) X.A (compareOp .NotEq v u) (EP X pins σ Q) X.xe s) := fun h1 h2 => by
      rw [h2]
      exact ⟨fun q => op_eq pins s σ H _ _ v u Q I rx ry ⟨h1, q⟩, fun q => op_ne pins s σ H _ _ v u Q I rx ry ⟨h1, q⟩⟩
    rcases Bool.or_eq_true_iff.mp ok with ok | ok
    · obtain ⟨a1, a2⟩ := Bool.and_eq_true_iff.mp ok
      rcases px.atom a1 with ⟨rfl, rfl⟩ | ⟨b, rfl, rfl⟩ | ⟨i, rfl, rfl⟩ | ⟨z, rfl, rfl⟩ <;> rcases py.atom a2 with ⟨rfl, rfl⟩ | ⟨b', rfl, rfl⟩ | ⟨j, rfl, rfl⟩ | ⟨z', rfl, rfl⟩
      · exact viaS rfl rfl
      · exact viaS rfl rfl
      · exact viaS rfl rfl
      · exact viaS rfl rfl
      · exact viaS rfl rfl
      · exact viaS rfl (by rw [dec_bl]; rfl)
      · exact viaD rfl rfl
      · exact viaS rfl rfl
      · exact viaS rfl rfl
      · exact viaD rfl rfl
      · exact viaS rfl (by rw [dec_int]; rfl)
      · exact viaS rfl rfl
      · exact viaS rfl rfl
      · exact viaS rfl rfl
      · exact viaS rfl rfl
      · exact viaS rfl (by rw [dec_str]; rfl)
    · obtain ⟨a1, a2⟩ := Bool.and_eq_true_iff.mp ok
      exact viaD a1 a2
  · cases e

/-! ### < -/
theorem lt_ok {x y : PyData} {c : Bool} (hu : X.A.units + 64 < cLine) (I : Inv X pins σ H s) (wd : Wd X.K W H S) {vx vy : V} {v u : Value} (px : RpH X.K W H vx x) (py : RpH X.K W H vy y) (rx : RelV vx v) (ry : RelV vy u) (e : ltD x y = some c)
    (q : Q (.bl c) H) : wpAny (model X.prog X.w) X.A (compareOp .Lt v u) (EP X pins σ Q) X.xe s := by
  unfold ltD at e
  split at e
  · rename_i ok
    cases e
    simp only [okLt, Bool.and_eq_true, decide_eq_true_eq] at ok
    obtain ⟨⟨⟨⟨h1, h2⟩, h3⟩, h4⟩, h5⟩ := ok
    obtain ⟨as, r1⟩ := px.reads I wd.sub rx h2
    obtain ⟨bs, r2⟩ := py.reads I wd.sub ry h3
    have hn : x ≠ .none := fun z => by
      subst z
      cases h4
    have := PySem.W.rcLt_alike x y X.A s v u as bs r1 r2 h1 hn (by omega)
    rw [← ltB_eq x y h1] at this
    exact this X.prog X.w X.xe _ ⟨.bl (ltB x y), H, I, rfl, q⟩
  · cases e

theorem le_ok {x y : PyData} {c : Bool} (hu : X.A.units + 64 < cLine) (I : Inv X pins σ H s) (wd : Wd X.K W H S) {vx vy : V} {v u : Value} (px : RpH X.K W H vx x) (py : RpH X.K W H vy y) (rx : RelV vx v) (ry : RelV vy u) (e : leD x y = some c)
    (q : Q (.bl c) H) : wpAny (model X.prog X.w) X.A (compareOp .LtE v u) (EP X pins σ Q) X.xe s := by
  unfold leD at e
  split at e
  · rename_i ok
    cases e
    obtain ⟨ok, h0⟩ := ok
    simp only [okLt, Bool.and_eq_true, decide_eq_true_eq] at ok
    obtain ⟨⟨⟨⟨h1, h2⟩, h3⟩, h4⟩, h5⟩ := ok
    obtain ⟨as, r1⟩ := px.reads I wd.sub rx h2
    obtain ⟨bs, r2⟩ := py.reads I wd.sub ry h3
    have hn : x ≠ .none := fun z => by
      subst z
      cases h4
    have := PySem.W.rcLe_alike x y X.A s v u as bs r1 r2 h1 hn (by omega)
    rw [← ltB_eq y x h0] at this
    exact this X.prog X.w X.xe _ ⟨.bl (!ltB y x), H, I, rfl, q⟩
  · cases e
theorem gt_ok {x y : PyData} {c : Bool} (hu : X.A.units + 64 < cLine) (I : Inv X pins σ H s) (wd : Wd X.K W H S) {vx vy : V} {v u : Value} (px : RpH X.K W H vx x) (py : RpH X.K W H vy y) (rx : RelV vx v) (ry : RelV vy u) (e : gtD x y = some c)
    (q : Q (.bl c) H) : wpAny (model X.prog X.w) X.A (compareOp .Gt v u) (EP X pins σ Q) X.xe s := by
  unfold gtD at e
  split at e
  · rename_i ok
    cases e
    obtain ⟨ok, h0⟩ := ok
    simp only [okLt, Bool.and_eq_true, decide_eq_true_eq] at ok
    obtain ⟨⟨⟨⟨h1, h2⟩, h3⟩, h4⟩, h5⟩ := ok
    obtain ⟨as, r1⟩ := px.reads I wd.sub rx h2
    obtain ⟨bs, r2⟩ := py.reads I wd.sub ry h3
    have hn : x ≠ .none := fun z => by
      subst z
      cases h4
    have := PySem.W.rcGt_alike x y X.A s v u as bs r1 r2 h1 hn (by omega)
    first
      | (rw [← ltB_eq y x h0] at this
         exact this X.prog X.w X.xe _ ⟨.bl (ltB y x), H, I, rfl, q⟩)
      | (rw [← ltB_eq x y h1] at this
         exact this X.prog X.w X.xe _ ⟨.bl (ltB x y), H, I, rfl, q⟩)
  · cases e
theorem ge_ok {x y : PyData} {c : Bool} (hu : X.A.units + 64 < cLine) (I : Inv X pins σ H s) (wd : Wd X.K W H S) {vx vy : V} {v u : Value} (px : RpH X.K W H vx x) (py : RpH X.K W H vy y) (rx : RelV vx v) (ry : RelV vy u) (e : geD x y = some c)
    (q : Q (.bl c) H) : wpAny (model X.prog X.w) X.A (compareOp .GtE v u) (EP X pins σ Q) X.xe s := by
  unfold geD at e
  split at e
  · rename_i ok
    cases e
    obtain ⟨ok, h0⟩ := ok
    simp only [okLt, Bool.and_eq_true, decide_eq_true_eq] at ok
    obtain ⟨⟨⟨⟨h1, h2⟩, h3⟩, h4⟩, h5⟩ := ok
    obtain ⟨as, r1⟩ := px.reads I wd.sub rx h2
    obtain ⟨bs, r2⟩ := py.reads I wd.sub ry h3
    have hn : x ≠ .none := fun z => by
      subst z
      cases h4
    have := PySem.W.rcGe_alike x y X.A s v u as bs r1 r2 h1 hn (by omega)
    rw [← ltB_eq x y h1] at this
    exact this X.prog X.w X.xe _ ⟨.bl (!ltB x y), H, I, rfl, q⟩
  · cases e

/-! ### in -/
theorem any_inV {x : PyData} {vx : V} (px : RpH X.K W H vx x) (ax : atomD x = true) : ∀ {vs : List V} {ds : List PyData}, RpA X.K W.F vs ds → ds.all atomD = true → flatV vx = true ∧ vs.all flatV = true ∧ inV vx vs = ds.any fun z => PyData.eqv z x
  | _, _, .nil, _ => by
    refine ⟨?_, rfl, rfl⟩
    rcases px.atom ax with ⟨rfl, rfl⟩ | ⟨b, rfl, rfl⟩ | ⟨i, rfl, rfl⟩ | ⟨z, rfl, rfl⟩ <;> rfl
  | _, _, .cons (v := v) (d := d) r rr, h => by
    simp only [List.all_cons, Bool.and_eq_true] at h
    obtain ⟨h1, h2, h3⟩ := any_inV px ax rr h.2
    have pr : RpH X.K W H v d := .inl r
    have key : flatV v = true ∧ eqV v vx = PyData.eqv d x := by
      rcases px.atom ax with ⟨rfl, rfl⟩ | ⟨b, rfl, rfl⟩ | ⟨i, rfl, rfl⟩ | ⟨z, rfl, rfl⟩ <;> rcases pr.atom h.1 with ⟨rfl, rfl⟩ | ⟨b', rfl, rfl⟩ | ⟨j, rfl, rfl⟩ | ⟨z', rfl, rfl⟩ <;> exact ⟨rfl, rfl⟩
    refine ⟨h1, by simp [key.1, h2], ?_⟩
    unfold inV at h3 ⊢
    rw [List.any_cons, List.any_cons, h3, key.2]
theorem in_ok {x y : PyData} {c : Bool} (hu : X.A.units + 65 < cLine) (I : Inv X pins σ H s) (wd : Wd X.K W H S) {vx vy : V} {v u : Value} (px : RpH X.K W H vx x) (py : RpH X.K W H vy y) (rx : RelV vx v) (ry : RelV vy u) (e : inD x y = some c) :
    (Q (.bl c) H → wpAny (model X.prog X.w) X.A (compareOp .In v u) (EP X pins σ Q) X.xe s) ∧ (Q (.bl (!c)) H → wpAny (model X.prog X.w) X.A (compareOp .NotIn v u) (EP X pins σ Q) X.xe s) := by
  unfold inD at e
  split at e
  · rename_i ds
    split at e
    · rename_i ok
      cases e
      rcases Bool.or_eq_true_iff.mp ok with ok | ok
      · obtain ⟨a1, a2⟩ := Bool.and_eq_true_iff.mp ok
        obtain ⟨p, vs, rfl, h1, r1⟩ := py.list wd.sub
        obtain ⟨f1, f2, f3⟩ := any_inV px a1 r1 a2
        exact ⟨fun q => op_in_seq pins s σ H _ _ v u Q I rx ry ⟨p, vs, rfl, .inl (.inl (.inl h1)), f1, f2, by rw [f3]; exact q⟩,
          fun q => op_notIn_seq pins s σ H _ _ v u Q I rx ry ⟨p, vs, rfl, .inl (.inl (.inl h1)), f1, f2, by rw [f3]; exact q⟩⟩
      · obtain ⟨a1, a2⟩ := Bool.and_eq_true_iff.mp ok
        have d1 := px.dp wd.sub (noDic_shaped a1)
        have d2 := py.dp wd.sub (noDic_shaped a2)
        exact ⟨fun q => op_inD hu pins s σ H _ _ v u Q I rx ry ⟨x, ds, d1, d2, a1, a2, q⟩, fun q => op_notInD hu pins s σ H _ _ v u Q I rx ry ⟨x, ds, d1, d2, a1, a2, q⟩⟩
    · cases e
  · rename_i ds
    split at e
    · rename_i ok
      cases e
      rcases Bool.or_eq_true_iff.mp ok with ok | ok
      · obtain ⟨a1, a2⟩ := Bool.and_eq_true_iff.mp ok
        obtain ⟨p, vs, rfl, h1, r1⟩ := py.tup
        obtain ⟨f1, f2, f3⟩ := any_inV px a1 r1 a2
        exact ⟨fun q => op_in_seq pins s σ H _ _ v u Q I rx ry ⟨p, vs, rfl, .inr ((wd.sub.tupP h1).seq), f1, f2, by rw [f3]; exact q⟩,
          fun q => op_notIn_seq pins s σ H _ _ v u Q I rx ry ⟨p, vs, rfl, .inr ((wd.sub.tupP h1).seq), f1, f2, by rw [f3]; exact q⟩⟩
      · obtain ⟨a1, a2⟩ := Bool.and_eq_true_iff.mp ok
        have a3 : SeqAt.shaped (.tuple ds) = true := a2
        obtain ⟨as, r1⟩ := px.reads I wd.sub rx (noDic_shaped a1)
        obtain ⟨bs, r2⟩ := py.reads I wd.sub ry (noDic_shaped a3)
        have c1 : PyData.canLayAll0 ds = true := by simpa [PyData.canLay0] using SeqAt.canLay_of_shaped a3
        exact ⟨fun q => SeqAt.in_tuple_reads r2 r1 c1 (SeqAt.canLay_of_shaped a1) (room_in_shaped a1 hu) ⟨.bl _, H, I, rfl, q⟩,
          fun q => SeqAt.notIn_tuple_reads r2 r1 c1 (SeqAt.canLay_of_shaped a1) (room_in_shaped a1 hu) ⟨.bl _, H, I, rfl, q⟩⟩
    · cases e
  · split at e
    · cases e
      cases px.str
      cases py.str
      exact ⟨fun q => op_in_str pins s σ H _ _ v u Q I rx ry ⟨_, _, rfl, rfl, q⟩, fun q => op_notin_str pins s σ H _ _ v u Q I rx ry ⟨_, _, rfl, rfl, q⟩⟩
    · cases e
  · rename_i kvs
    split at e
    · rename_i hk
      cases e
      obtain ⟨k, hk⟩ := Option.isSome_iff_exists.mp hk
      obtain ⟨p, vs, rfl, h1, r1⟩ := py.dict wd.sub
      cases (show u = Value.ref p from ry)
      have ex := px.key hk
      subst ex
      have g : DGet H p (kV k) (valV vs k) := .inl ⟨vs, k, h1, rfl, rfl⟩
      have es : (valV vs k).isSome = (getP kvs x).isSome := by
        rcases r1.get hk with ⟨h1, h2⟩ | ⟨_, _, h1, h2, _⟩ <;> rw [h1, h2] <;> rfl
      exact ⟨fun q => d_in (by omega) I g rx fun s' I' => ⟨.bl _, H, I', rfl, by rw [es]; exact q⟩, fun q => d_notIn (by omega) I g rx fun s' I' => ⟨.bl _, H, I', rfl, by rw [es]; exact q⟩⟩
    · cases e
  · cases e

/-! ### is -/
theorem notnon_ref {K : PySem.W.Frag} {v : V} {a : A} (r : Ra K W v a) (h : ∀ x, a ≠ .d x) : v ≠ .non := by
  cases a with
  | d x => exact absurd rfl (h x)
  | obj k =>
    obtain ⟨p, _, rfl⟩ := r
    exact fun z => nomatch z
  | pr x y =>
    obtain ⟨p, _, _, rfl, _⟩ := r
    exact fun z => nomatch z
  | seq ns =>
    obtain ⟨p, rfl, _⟩ := r
    exact fun z => nomatch z
theorem is_ok {a : A} {y : PyData} {c : Bool} (I : Inv X pins σ H s) {vx vy : V} {v u : Value} (ra : Ra X.K W vx a) (rb : Rp X.K W.F vy y) (rx : RelV vx v) (ry : RelV vy u) (e : isD a y = some c) :
    (Q (.bl c) H → wpAny (model X.prog X.w) X.A (compareOp .Is v u) (EP X pins σ Q) X.xe s) ∧ (Q (.bl (!c)) H → wpAny (model X.prog X.w) X.A (compareOp .IsNot v u) (EP X pins σ Q) X.xe s) := by
  have non : vy = .non → c = decide (vx = .non) → (Q (.bl c) H → wpAny (model X.prog X.w) X.A (compareOp .Is v u) (EP X pins σ Q) X.xe s) ∧ (Q (.bl (!c)) H → wpAny (model X.prog X.w) X.A (compareOp .IsNot v u) (EP X pins σ Q) X.xe s) := fun h1 h2 => by
    subst h2
    exact ⟨fun q => op_isN pins s σ H _ _ v u Q I rx ry ⟨h1, q⟩, fun q => op_notN pins s σ H _ _ v u Q I rx ry ⟨h1, q⟩⟩
  unfold isD at e
  split at e
  · cases e
    cases ra
    cases rb
    exact non rfl rfl
  · cases e
    cases ra
    cases rb
    exact ⟨fun q => op_isBl pins s σ H _ _ v u Q I rx ry ⟨_, _, rfl, rfl, q⟩, fun q => op_notBl pins s σ H _ _ v u Q I rx ry ⟨_, _, rfl, rfl, q⟩⟩
  · rename_i h
    cases e
    cases rb
    refine non rfl (decide_eq_false ?_).symm
    cases a with
    | d x =>
      cases ra with
      | non => exact (h rfl).elim
      | _ => exact fun z => nomatch z
    | obj k => exact notnon_ref ra fun x z => nomatch z
    | pr x y => exact notnon_ref ra fun x z => nomatch z
    | seq x => exact notnon_ref ra fun x z => nomatch z
  · cases e
theorem op_cmpF (o : CmpOp) (hu : X.A.units + 65 < cLine) : OpR X (compareOp o) (rB X.K fun a b S => (cmpF o a b S).map fun c => .d (.bool c)) := by
  intro pins s σ H x y v u Q I rx ry ⟨W, S, a, b, c, wd, ra, rb, e, q⟩
  have hu' : X.A.units + 64 < cLine := by omega
  cases hc : cmpF o a b S with
  | none =>
    simp only [hc, Option.map_none] at e
    cases e
  | some c' =>
    simp only [hc, Option.map_some] at e
    cases e
    have fin : ∀ {W' H'}, Le W W' → Wd X.K W' H' S → Q (.bl c') H' := fun le w => q _ _ _ le w (.bl c')
    have q0 : Q (.bl c') H := fin (.refl W) wd
    unfold cmpF at hc
    split at hc
    · split at hc
      · exact (is_ok I ra rb rx ry hc).1 q0
      · cases hc
    · split at hc
      · rename_i y'
        cases hi : isD a y' with
        | none =>
          rw [hi] at hc
          cases hc
        | some k =>
          rw [hi] at hc
          cases hc
          exact (is_ok I ra rb rx ry hi).2 q0
      · cases hc
    · split at hc
      · rename_i dx dy e1 e2
        have px := wd.deref ra e1
        have py := wd.deref rb e2
        unfold cmpD at hc
        split at hc
        · exact (eq_ok hu' I wd px py rx ry hc).1 q0
        · cases hi : eqvD dx dy with
          | none =>
            rw [hi] at hc
            cases hc
          | some k =>
            rw [hi] at hc
            cases hc
            exact (eq_ok hu' I wd px py rx ry hi).2 q0
        · exact lt_ok hu' I wd px py rx ry hc q0
        · split at hc
          · cases hc
            cases px.int
            cases py.int
            exact op_le pins s σ H _ _ v u Q I rx ry ⟨_, _, rfl, rfl, q0⟩
          · exact le_ok hu' I wd px py rx ry hc q0
        · split at hc
          · cases hc
            cases px.int
            cases py.int
            exact op_gt pins s σ H _ _ v u Q I rx ry ⟨_, _, rfl, rfl, q0⟩
          · exact gt_ok hu' I wd px py rx ry hc q0
        · split at hc
          · cases hc
            cases px.int
            cases py.int
            exact op_ge pins s σ H _ _ v u Q I rx ry ⟨_, _, rfl, rfl, q0⟩
          · exact ge_ok hu' I wd px py rx ry hc q0
        · exact (in_ok hu I wd px py rx ry hc).1 q0
        · cases hi : inD dx dy with
          | none =>
            rw [hi] at hc
            cases hc
          | some k =>
            rw [hi] at hc
            cases hc
            exact (in_ok hu I wd px py rx ry hi).2 q0
        · cases hc
      · cases hc
end
end PV

/-! PV5: items, slices, truth, the built-ins, by values. -/
namespace PV
open PySem PySem.Spec PyProof.Rows L2
section
variable {X : Cx}
/-! ### items -/
theorem ix_dict (hu : X.A.units + 1 < cLine) : IxR X (fun x y H Q => ∃ a v, x = .ref a ∧ DGet H a y (some v) ∧ Q v H) := by
  intro value slice pins s σ H x y v u Q I rx ry h hs
  obtain ⟨a, w, rfl, g, q⟩ := h
  obtain rfl : v = Value.ref a := rx
  have hT := dict_typeIs I g
  unfold subscriptTail
  refine wpAny_bind ?_
  rw [getitemInPython_of_ne hT.not_modules]
  refine wpAny_bind (wpAny_specialOf hT PySem.F.slot_dict_getitem.lookup ?_)
  have fin : wpAny (model X.prog X.w) X.A (subscripted slice false (.ref a) u) (fun r s₃ => wpAny (model X.prog X.w) X.A (letTemporaryGo value (.ref a) r >>= fun _ => pure r) (EP X pins σ Q) X.xe s₃) X.xe s := by
    rw [hs]
    exact wpAny_operating (wpAny_mono (d_getItem hu I g ry fun w' s3 I3 rw' => (show EP X pins σ Q w' s3 from ⟨w, H, I3, rw', q⟩)) (fun r s₃ h₃ => wpAny_bind (wpAny_letTemporaryGo (wpAny_pure h₃))) fun _ _ x => x)
  first
    | exact wpAny_pure (wpAny_bind fin)
    | exact wpAny_bind (wpAny_pure (wpAny_bind fin))
    | exact wpAny_bind fin
theorem ix_F (hu : X.A.units + 1 < cLine) : IxR X (rB X.K ixF) := by
  intro value slice pins s σ H x y v u Q I rx ry ⟨W, S, a, b, c, wd, ra, rb, e, q⟩ hsub
  unfold ixF at e
  split at e
  · rename_i a1 a2 i
    cases rb
    obtain ⟨p, vx, vy, rfl, hq, r1, r2⟩ := ra
    split at e
    · rename_i h
      subst h
      cases e
      exact ix_tup value slice pins s σ H _ _ v u Q I rx ry ⟨p, [vx, vy], 0, vx, rfl, rfl, wd.sub.seqT hq, rfl, q W _ H (.refl W) wd r1⟩ hsub
    · split at e
      · rename_i h
        subst h
        cases e
        exact ix_tup value slice pins s σ H _ _ v u Q I rx ry ⟨p, [vx, vy], 1, vy, rfl, rfl, wd.sub.seqT hq, rfl, q W _ H (.refl W) wd r2⟩ hsub
      · cases e
  · split at e
    · rename_i dx dy e1 e2
      have px := wd.deref ra e1
      have py := wd.deref rb e2
      cases hc : ixD dx dy with
      | none =>
        rw [hc] at e
        cases e
      | some d =>
        rw [hc] at e
        cases e
        unfold ixD at hc
        split at hc
        · cases py.int
          obtain ⟨p, vs, rfl, h1, r1⟩ := px.list wd.sub
          obtain ⟨w, h2, h3⟩ := r1.at hc
          exact ix_list value slice pins s σ H _ _ v u Q I rx ry ⟨p, vs, _, w, rfl, rfl, .inl (.inl h1), h2, q.flat wd h3⟩ hsub
        · cases py.int
          obtain ⟨p, vs, rfl, h1, r1⟩ := px.tup
          obtain ⟨w, h2, h3⟩ := r1.at hc
          exact ix_tup value slice pins s σ H _ _ v u Q I rx ry ⟨p, vs, _, w, rfl, rfl, (wd.sub.tupP h1).seq, h2, q.flat wd h3⟩ hsub
        · cases py.int
          cases px.str
          split at hc
          · rename_i hz
            rename_i z i
            cases ha : atI z.cps.toList i with
            | none =>
              rw [ha] at hc
              cases hc
            | some k =>
              rw [ha] at hc
              cases hc
              exact ix_str value slice pins s σ H _ _ v u Q I rx ry ⟨z, i, k, rfl, rfl, szl hz, ha, q.flat wd (.str _)⟩ hsub
          · cases hc
        · split at hc
          · rename_i hk
            obtain ⟨k, hk⟩ := Option.isSome_iff_exists.mp hk
            obtain ⟨p, vs, rfl, h1, r1⟩ := px.dict wd.sub
            rcases r1.get hk with ⟨h2, _⟩ | ⟨z, d', h2, h3, h4⟩
            · rw [h2] at hc
              cases hc
            · rw [h2] at hc
              cases hc
              exact ix_dict hu value slice pins s σ H _ _ v u Q I rx ry ⟨p, z, rfl, by rw [py.key hk, ← h3]; exact .inl ⟨vs, k, h1, rfl, rfl⟩, q.flat wd h4⟩ hsub
          · cases hc
        · cases hc
    · cases e

/-! ### slices -/
def rS (K : PySem.W.Frag) : V → Option Int → Option Int → Hp → VK → Prop := fun x lo hi H Q => ∃ W S a dx c, Wd K W H S ∧ Ra K W x a ∧ deref S a = some dx ∧ slcD dx lo hi = some c ∧ Kt K W S (.d c) Q
theorem sl_F : SlR X (rS X.K) := by
  have h1 : SlR X (fun x lo hi H Q => ∃ W S a ds, Wd X.K W H S ∧ Ra X.K W x a ∧ deref S a = some (.list ds) ∧ Kt X.K W S (.d (.list (cutG ds lo hi))) Q) := by
    intro pins s σ H x v vl vu lo hi sl Q I rx hsl rl rh ⟨W, S, a, ds, wd, ra, e, q⟩
    obtain ⟨p, vs, rfl, g1, r1⟩ := (wd.deref ra e).list wd.sub
    exact sl_list pins s σ H _ v vl vu lo hi sl Q I rx hsl rl rh ⟨p, vs, rfl, .inl (.inl g1), fun p n => q.newL wd (r1.cut lo hi) n⟩
  have h2 : SlR X (fun x lo hi H Q => ∃ W S a ds, Wd X.K W H S ∧ Ra X.K W x a ∧ deref S a = some (.tuple ds) ∧ Kt X.K W S (.d (.tuple (cutG ds lo hi))) Q) := by
    intro pins s σ H x v vl vu lo hi sl Q I rx hsl rl rh ⟨W, S, a, ds, wd, ra, e, q⟩
    obtain ⟨p, vs, rfl, g1, r1⟩ := (wd.deref ra e).tup
    refine sl_tupP pins s σ H _ v vl vu lo hi sl Q I rx hsl rl rh ⟨p, vs, rfl, (wd.sub.tupP g1).seq, fun z => ?_, fun _ => q.newT wd (r1.cut lo hi)⟩
    refine q.flat wd (.tup g1 ?_)
    have : cutG ds lo hi = ds := by
      unfold cutG
      rw [← r1.length, z.1, z.2, r1.length]
      simp
    rw [this]
    exact r1
  have h3 : SlR X (fun x lo hi H Q => ∃ W S a z, Wd X.K W H S ∧ Ra X.K W x a ∧ deref S a = some (.str z) ∧ z.length ≤ 16777216 ∧ Kt X.K W S (.d (.str (cutS z lo hi))) Q) := by
    intro pins s σ H x v vl vu lo hi sl Q I rx hsl rl rh ⟨W, S, a, ds, wd, ra, e, hz, q⟩
    cases (wd.deref ra e).str
    exact sl_str pins s σ H _ v vl vu lo hi sl Q I rx hsl rl rh ⟨_, rfl, szl hz, q.flat wd (.str _)⟩
  intro pins s σ H x v vl vu lo hi sl Q I rx hsl rl rh ⟨W, S, a, dx, c, wd, ra, e, ec, q⟩
  unfold slcD at ec
  split at ec
  · cases ec
    exact h1 pins s σ H x v vl vu lo hi sl Q I rx hsl rl rh ⟨W, S, a, _, wd, ra, e, q⟩
  · cases ec
    exact h2 pins s σ H x v vl vu lo hi sl Q I rx hsl rl rh ⟨W, S, a, _, wd, ra, e, q⟩
  · split at ec
    · rename_i hz
      cases ec
      exact h3 pins s σ H x v vl vu lo hi sl Q I rx hsl rl rh ⟨W, S, a, _, wd, ra, e, hz, q⟩
    · cases ec
  · cases ec

/-! ### truth -/
theorem tru_V {K : PySem.W.Frag} {W : Wo} {H : Hp} {S : Sto} {v : V} {a : A} {k : Bool} (wd : Wd K W H S) (ra : Ra K W v a) (e : tru S a = some k) : TruV K v H k := by
  unfold tru at e
  cases hd : deref S a with
  | none =>
    rw [hd] at e
    cases e
  | some d =>
    rw [hd] at e
    have e : truD d = some k := e
    have px := wd.deref ra hd
    unfold truD at e
    split at e
    · cases e
      cases px.none
      rfl
    · cases e
      cases px.bool
      rfl
    · cases e
      cases px.int
      rfl
    · cases px.str
      split at e
      · rename_i hz
        cases e
        exact ⟨szl hz, by simp [bne, Bool.beq_eq_decide_eq]⟩
      · cases e
    · cases e
      obtain ⟨p, vs, rfl, h1, r1⟩ := px.list wd.sub
      refine .inl ⟨vs, .inl (.inl h1), ?_⟩
      cases r1 <;> rfl
    · cases e
      obtain ⟨p, vs, rfl, h1, r1⟩ := px.tup
      refine .inr (.inl ⟨vs, (wd.sub.tupP h1).seq, ?_⟩)
      cases r1 <;> rfl
    · cases e

/-! ### isinstance -/
def Ty.nm : Ty → String
  | .bool => "bool"
  | .int => "int"
  | .str => "str"
  | .list => "list"
  | .tuple => "tuple"
def tyOf : PyData → String
  | .none => "NoneType"
  | .bool _ => "bool"
  | .int _ => "int"
  | .str _ => "str"
  | .list _ => "list"
  | .tuple _ => "tuple"
  | .dict _ => "dict"
theorem kit_tab {K : PySem.W.Frag} (y : PyData) (t : Ty) : PySem.W.kitOne K (.type (tyOf y)) (.type t.nm) = some (typeOk y t) := by
  cases y with
  | none => cases t <;> first | exact kit_ty (a := "NoneType") (r := true) (by decide +kernel) | exact kit_ty (a := "NoneType") (r := false) (by decide +kernel)
  | bool b => cases t <;> first | exact kit_ty (a := "bool") (r := true) (by decide +kernel) | exact kit_ty (a := "bool") (r := false) (by decide +kernel)
  | int b => cases t <;> first | exact kit_ty (a := "int") (r := true) (by decide +kernel) | exact kit_ty (a := "int") (r := false) (by decide +kernel)
  | str b => cases t <;> first | exact kit_ty (a := "str") (r := true) (by decide +kernel) | exact kit_ty (a := "str") (r := false) (by decide +kernel)
  | list b => cases t <;> first | exact kit_ty (a := "list") (r := true) (by decide +kernel) | exact kit_ty (a := "list") (r := false) (by decide +kernel)
  | tuple b => cases t <;> first | exact kit_ty (a := "tuple") (r := true) (by decide +kernel) | exact kit_ty (a := "tuple") (r := false) (by decide +kernel)
  | dict b => cases t <;> first | exact kit_ty (a := "dict") (r := true) (by decide +kernel) | exact kit_ty (a := "dict") (r := false) (by decide +kernel)
theorem kit_any {K : PySem.W.Frag} (y : PyData) : ∀ ts : List Ty, PySem.W.kitAny K (.type (tyOf y)) (ts.map fun t => Value.type t.nm) = some (ts.any fun t => typeOk y t)
  | [] => kitAny_nil
  | t :: ts => by
    rw [List.map_cons, List.any_cons]
    refine kitAny_cons (b := typeOk y t) (kit_tab y t) (fun h => ?_) fun h => ?_
    · rw [h]
      exact kit_any y ts
    · rw [h]
      rfl
theorem ty_x {K : PySem.W.Frag} {W : Wo} {H : Hp} {v : V} {y : PyData} (hs : SubF W.F H) (r : RpH K W H v y) (h : ∀ z, y ≠ .dict z) : TyX K H v (.type (tyOf y)) := by
  cases y with
  | none =>
    cases r.none
    exact .base .non
  | bool b =>
    cases r.bool
    exact .base (.bl b)
  | int b =>
    cases r.int
    exact .base (.int b)
  | str b =>
    cases r.str
    exact .base (.str b)
  | list ds =>
    obtain ⟨p, vs, rfl, h1, _⟩ := r.list hs
    exact .base (.lst h1)
  | tuple ds =>
    obtain ⟨p, vs, rfl, h1, _⟩ := r.tup
    rcases (hs.tupP h1).seq with (h1 | ⟨o, h1⟩) | ⟨o, _, _, h1, h2, _⟩
    · exact .base (.tup h1)
    · exact .fTuple h1
    · exact .kTuple h1 h2
  | dict z => exact absurd rfl (h z)
end
end PV

/-! PV6: the built-ins, by values. -/
namespace PV
open PySem PySem.Spec PyProof.Rows L2

/-! ### min of data that are alike: the loop of the built-in, the best so far told by its datum -/
section
variable {prog : Program} {w : World} {A : Around}
/-- values told by data, compared while the objects of g stand -/
structure Tell (prog : Program) (w : World) (A : Around) (g : Heap) (T : Value → PyData → Prop) : Prop where
  lt : ∀ (s : Shared) (v u : Value) (x y : PyData) (c : Bool) (Q E : Value → Shared → Prop), (∀ b o, g.get? b = some o → s.heap.get? b = some o) → T v x → T u y → ltD x y = some c → Q (.bool c) s → wpAny (model prog w) A (richCompare .Lt v u) Q E s
def TellA (T : Value → PyData → Prop) (items : Array Value) (ds : List PyData) : Prop := items.size = ds.length ∧ ∀ (i : Nat) (v : Value), items[i]? = some v → ∃ x, ds[i]? = some x ∧ T v x
theorem min_turns {g : Heap} {T : Value → PyData → Prop} {it S : Addr} {fp wr : List Addr} {items : Array Value} {ds : List PyData} {St : Nat → Heap → Prop} {R : Result → Shared → Prop} {r : PyData}
    (W : Walks prog w A.in1 it fp wr items.size (fun i v => items[i]? = some v) St) (C : Tell prog w A.in1 g T) (B : TellA T items ds) (hS : S ∉ fp) (gS : g.get? S = none) (gw : ∀ b ∈ wr, g.get? b = none) :
    ∀ (k i : Nat) (s : Shared) (v : Value) (x : PyData) (c : Nat), ds.length - i = k → i ≤ ds.length → St i s.heap → (∀ b o, g.get? b = some o → s.heap.get? b = some o) → T v x → minD x (ds.drop i) = some r →
      s.heap.get? S = some { cls := .type "list", dict := none, data := .seq #[v, v] c, slots := #[] } →
      (∀ u h' tk, T u r → (∀ b o, b ∉ wr → b ≠ S → s.heap.get? b = some o → h'.get? b = some o) → R (.ok (.ret u)) { s with heap := h', toks := tk }) →
      codeAny (model prog w) A (.builtin "min.loop" ⟨[.ref it, .none, .ref S], []⟩) R s := by
  have hw : S ∉ wr := fun z => hS (W.sub _ z)
  have hid : (toString "min" ++ toString ".loop" : String) = "min.loop" := by decide
  have low : ∀ {h h' : Heap}, (∀ b o, g.get? b = some o → h.get? b = some o) → (∀ b o, b ∉ wr → h.get? b = some o → h'.get? b = some o) → ∀ b o, g.get? b = some o → h'.get? b = some o := fun a z b o e =>
    z b o (fun q => by rw [gw b q] at e; cases e) (a b o e)
  have upS : ∀ {h : Heap} {f : Obj → Obj}, (∀ b o, g.get? b = some o → h.get? b = some o) → ∀ b o, g.get? b = some o → (h.update S f).get? b = some o := fun a b o e =>
    (Heap.get?_update_other _ _ (fun z : S = b => by rw [← z, gS] at e; cases e)).trans (a b o e)
  intro k
  induction k with
  | zero =>
    intro i s v x c hk hi st hg tv em hl hR
    have ei : i = ds.length := by omega
    rw [ei, List.drop_length] at em
    cases em
    refine codeAny_builtin F.entry_min_loop ?_
    rw [Around.under_plainId F.plain_min_loop _]
    show wpAny _ A.in1 (seqItems? (.ref S) >>= _) _ _ s
    refine wpAny_bind (wpAny_seqItems hl rfl ?_)
    show wpAny _ A.in1 (tryCatch (pyNext (.ref it)) _ >>= _) _ _ s
    have ez : i = items.size := ei.trans B.1.symm
    refine wpAny_bind (wpAny_tryCatch (W.done s _ _ (ez ▸ st) fun h' tk kept => ?_))
    show wpAny _ A.in1 (updateSeq S (fun _ => #[]) >>= _) _ _ _
    refine wpAny_bind (wpAny_updateSeq (kept S _ hw hl) rfl (wpAny_bind (wpAny_letGo (wpAny_pure ?_))))
    exact hR v _ tk tv fun b o b1 b2 e => (Heap.get?_update_other _ _ (Ne.symm b2)).trans (kept b o b1 e)
  | succ k ih =>
    intro i s v x c hk hi st hg tv em hl hR
    have lt : i < ds.length := by omega
    have lt' : i < items.size := by rw [B.1]; exact lt
    rw [List.drop_eq_getElem_cons lt] at em
    simp only [minD] at em
    refine codeAny_builtin F.entry_min_loop ?_
    rw [Around.under_plainId F.plain_min_loop _]
    show wpAny _ A.in1 (seqItems? (.ref S) >>= _) _ _ s
    refine wpAny_bind (wpAny_seqItems hl rfl ?_)
    show wpAny _ A.in1 (tryCatch (pyNext (.ref it)) _ >>= _) _ _ s
    refine wpAny_bind (wpAny_tryCatch (W.item i s _ _ lt' st fun u h' tk hu st' kept => ?_))
    obtain ⟨y, hy, ty⟩ := B.2 i u hu
    have ey : y = ds[i] := by
      rw [List.getElem?_eq_getElem lt] at hy
      exact (Option.some.inj hy).symm
    subst ey
    have hl' := kept S _ hw hl
    have hg' := low hg kept
    split at em
    · cases em
    · rename_i ec
      show wpAny _ A.in1 (tryCatch (holding [u, u] (richCompare .Lt u v >>= _)) _ >>= _) _ _ _
      refine wpAny_bind (wpAny_tryCatch (wpAny_holding (wpAny_bind (C.lt _ u v _ _ true _ _ hg' ty tv ec ?_))))
      refine wpAny_bind (wpAny_holding (wpAny_truthy_bool (wpAny_bind (wpAny_letGo (wpAny_pure ?_)))))
      simp only [if_true]
      refine wpAny_bind (wpAny_updateSeq hl' rfl (wpAny_bind (wpAny_letGo ?_)))
      rw [hid]
      refine wpAny_pure ⟨plainId_quiet F.plain_min_loop _, ih (i + 1) _ u _ _ (by omega) lt (W.frame _ _ _ st' fun b hb o e => ?_) (upS hg') ty em (Heap.get?_update_self _ hl' rfl) fun u' h'' tk'' tr kept' => ?_⟩
      · exact (Heap.get?_update_other _ _ (fun z : S = b => hS (by rw [z]; exact hb))).trans e
      · exact hR u' h'' tk'' tr fun b o b1 b2 e => kept' b o b1 b2 ((Heap.get?_update_other _ _ (Ne.symm b2)).trans (kept b o b1 e))
    · rename_i ec
      show wpAny _ A.in1 (tryCatch (holding [u, u] (richCompare .Lt u v >>= _)) _ >>= _) _ _ _
      refine wpAny_bind (wpAny_tryCatch (wpAny_holding (wpAny_bind (C.lt _ u v _ _ false _ _ hg' ty tv ec ?_))))
      refine wpAny_bind (wpAny_holding (wpAny_truthy_bool (wpAny_bind (wpAny_letGo (wpAny_pure ?_)))))
      simp only [Bool.false_eq_true, if_false]
      refine wpAny_bind (wpAny_letGo ?_)
      rw [hid]
      exact wpAny_pure ⟨plainId_quiet F.plain_min_loop _, ih (i + 1) _ v _ c (by omega) lt st' hg' tv em hl' fun u' h'' tk'' tr kept' => hR u' h'' tk'' tr fun b o b1 b2 e => kept' b o b1 b2 (kept b o b1 e)⟩
theorem min_first {g : Heap} {T : Value → PyData → Prop} {it S : Addr} {fp wr : List Addr} {items : Array Value} {d : PyData} {ds : List PyData} {St : Nat → Heap → Prop} {R : Result → Shared → Prop} {r : PyData}
    (W : Walks prog w A.in1 it fp wr items.size (fun i v => items[i]? = some v) St) (C : Tell prog w A.in1 g T) (B : TellA T items (d :: ds)) (hS : S ∉ fp) (gS : g.get? S = none) (gw : ∀ b ∈ wr, g.get? b = none)
    {s : Shared} {c : Nat} (st : St 0 s.heap) (hg : ∀ b o, g.get? b = some o → s.heap.get? b = some o) (em : minD d ds = some r) (hl : s.heap.get? S = some { cls := .type "list", dict := none, data := .seq #[] c, slots := #[] })
    (hR : ∀ u h' tk, T u r → (∀ b o, b ∉ wr → b ≠ S → s.heap.get? b = some o → h'.get? b = some o) → R (.ok (.ret u)) { s with heap := h', toks := tk }) :
    codeAny (model prog w) A (.builtin "min.loop" ⟨[.ref it, .none, .ref S], []⟩) R s := by
  have hw : S ∉ wr := fun z => hS (W.sub _ z)
  have hid : (toString "min" ++ toString ".loop" : String) = "min.loop" := by decide
  have lt : 0 < items.size := by
    rw [B.1]
    exact Nat.succ_pos _
  refine codeAny_builtin F.entry_min_loop ?_
  rw [Around.under_plainId F.plain_min_loop _]
  show wpAny _ A.in1 (seqItems? (.ref S) >>= _) _ _ s
  refine wpAny_bind (wpAny_seqItems hl rfl ?_)
  show wpAny _ A.in1 (tryCatch (pyNext (.ref it)) _ >>= _) _ _ s
  refine wpAny_bind (wpAny_tryCatch (W.item 0 s _ _ lt st fun u h' tk hu st' kept => ?_))
  obtain ⟨y, hy, ty⟩ := B.2 0 u hu
  have ey : y = d := by simpa using hy.symm
  subst ey
  have hl' := kept S _ hw hl
  show wpAny _ A.in1 (updateSeq S (fun _ => #[u, u]) >>= _) _ _ _
  refine wpAny_bind (wpAny_updateSeq hl' rfl ?_)
  rw [hid]
  refine wpAny_pure ⟨plainId_quiet F.plain_min_loop _, min_turns W C B hS gS gw _ 1 _ u y _ rfl (by simp) (W.frame _ _ _ st' fun b hb o e => ?_) (fun b o e => ?_) ty (by simpa using em) (Heap.get?_update_self _ hl' rfl) fun u' h'' tk'' tr kept' => ?_⟩
  · exact (Heap.get?_update_other _ _ (fun z : S = b => hS (by rw [z]; exact hb))).trans e
  · refine (Heap.get?_update_other _ _ (fun z : S = b => by rw [← z, gS] at e; cases e)).trans (kept b o (fun q => by rw [gw b q] at e; cases e) (hg b o e))
  · exact hR u' h'' tk'' tr fun b o b1 b2 e => kept' b o b1 b2 ((Heap.get?_update_other _ _ (Ne.symm b2)).trans (kept b o b1 e))
end
section
variable {prog : Program} {w : World} {A : Around} {E : Value → Shared → Prop} {s : Shared}
theorem call_min_data {l : Addr} {items : Array Value} {T : Value → PyData → Prop} {d r : PyData} {ds : List PyData} {Q : Value → Shared → Prop} (hh : A.handled = none) (hl : s.heap.IsList l items) (C : Tell prog w A.in1 s.heap T) (B : TellA T items (d :: ds)) (em : minD d ds = some r)
    (hQ : ∀ u h' tk, T u r → (∀ b o, s.heap.get? b = some o → h'.get? b = some o) → Q u { s with heap := h', toks := tk }) : wpAny (model prog w) A (call (.builtin "min") [.ref l]) Q E s := by
  have hid : (toString "min" ++ toString ".loop" : String) = "min.loop" := by decide
  have ll : l < s.heap.objs.size := by
    obtain ⟨_, e, _⟩ := hl
    exact Heap.lt_size e
  refine call_function_tree F.kind_min F.plain_min F.entry_min (F.args_min1 _) ?_
  show wpAny _ A.in1 (Builtin.Builtins.bindParams "min" ["key", "default"] 0 ⟨[], []⟩ >>= _) _ _ s
  refine wpAny_bind (wpAny_of_eq (show Builtin.Builtins.bindParams "min" ["key", "default"] 0 ⟨[], []⟩ = pure [none, none] from rfl) ?_)
  refine wpAny_bind (wpAny_pure (wpAny_bind (wpAny_pyIter_list hl ?_)))
  have W : Walks prog w A.in1 s.heap.objs.size [s.heap.objs.size, l] [s.heap.objs.size] items.size (fun i v => items[i]? = some v) (fun i h => h.IsListIter s.heap.objs.size l i ∧ h.IsList l items) := Walks.list (A := A.in1) hh _ l (Nat.ne_of_lt ll) items
  refine wpAny_bind (wpAny_newObj_type ?_)
  rw [hid]
  have sz : (s.heap.push { cls := .type "list_iterator", data := .fields #[.ref l, .int 0 0] }).objs.size = s.heap.objs.size + 1 := Heap.size_push ..
  have old : ∀ b o, s.heap.get? b = some o → ((s.heap.push { cls := .type "list_iterator", data := .fields #[.ref l, .int 0 0] }).push { cls := .type "list", data := .seq #[] }).get? b = some o := fun b o e => Heap.get?_push_of_some _ (Heap.get?_push_of_some _ e)
  refine wpAny_pure ⟨plainId_quiet F.plain_min_loop _, min_first (g := s.heap) W C B (fun hm => ?_) (Heap.get?_none_of_le (by rw [sz]; exact Nat.le_succ _)) (fun b hb => ?_) ⟨⟨_, Heap.get?_push_of_some _ (Heap.get?_push_size _ rfl), rfl, rfl⟩, (hl.push _).push _⟩ old em (Heap.get?_push_size _ rfl) fun u h' tk tu kept => ?_⟩
  · rcases List.mem_cons.mp hm with e | hm
    · have : (s.heap.push { cls := .type "list_iterator", data := .fields #[.ref l, .int 0 0] }).objs.size = s.heap.objs.size := e
      rw [sz] at this
      exact absurd this (Nat.succ_ne_self _)
    · have e : (s.heap.push { cls := .type "list_iterator", data := .fields #[.ref l, .int 0 0] }).objs.size = l := by simpa using hm
      rw [sz] at e
      exact absurd ll (by rw [← e]; exact Nat.not_lt.mpr (Nat.le_succ _))
  · have e : b = s.heap.objs.size := by simpa using hb
    rw [e]
    exact Heap.get?_none_of_le (Nat.le_refl _)
  · refine hQ u h' tk tu fun b o e => kept b o (fun hm => ?_) (fun z => ?_) (old b o e)
    · have z : b = s.heap.objs.size := by simpa using hm
      rw [z] at e
      exact absurd (Heap.lt_size e) (Nat.lt_irrefl _)
    · have z : b = (s.heap.push { cls := .type "list_iterator", data := .fields #[.ref l, .int 0 0] }).objs.size := z
      rw [z, sz] at e
      exact absurd (Heap.lt_size e) (Nat.not_lt.mpr (Nat.le_succ _))
end
end PV

namespace PV
open PySem PySem.Spec PyProof.Rows L2
section
variable {prog : Program} {w : World} {A : Around} {E : Value → Shared → Prop} {s : Shared}
theorem call_min_pair {a b : Value} {T : Value → PyData → Prop} {x y r : PyData} {Q : Value → Shared → Prop} (hh : A.handled = none) (C : Tell prog w A.in1 s.heap T) (ta : T a x) (tb : T b y) (em : minD x [y] = some r)
    (hQ : ∀ u h' tk, T u r → (∀ b o, s.heap.get? b = some o → h'.get? b = some o) → Q u { s with heap := h', toks := tk }) : wpAny (model prog w) A (call (.builtin "min") [a, b]) Q E s := by
  have hid : (toString "min" ++ toString ".loop" : String) = "min.loop" := by decide
  refine call_function_tree F.kind_min F.plain_min F.entry_min (F.args_min2 _ _) ?_
  show wpAny _ A.in1 (Builtin.Builtins.bindParams "min" ["key", "default"] 0 ⟨[], []⟩ >>= _) _ _ s
  refine wpAny_bind (wpAny_of_eq (show Builtin.Builtins.bindParams "min" ["key", "default"] 0 ⟨[], []⟩ = pure [none, none] from rfl) ?_)
  show wpAny _ A.in1 (newTuple [a, b] >>= _) _ _ s
  refine wpAny_bind (wpAny_newObj_type ?_)
  generalize hg : (s.heap.push { cls := .type "tuple", data := .seq [a, b].toArray }) = g
  have gs : g.objs.size = s.heap.objs.size + 1 := by rw [← hg]; exact Heap.size_push ..
  have ht : g.IsTuple s.heap.objs.size #[a, b] := by
    rw [← hg]
    exact ⟨_, Heap.get?_push_size _ rfl, rfl, 0, rfl⟩
  have up : ∀ c o, s.heap.get? c = some o → g.get? c = some o := fun c o e => by
    rw [← hg]
    exact Heap.get?_push_of_some _ e
  refine wpAny_bind (wpAny_pyIter_tuple (s := { s with heap := g }) ht ?_)
  have sz : (g.push { cls := .type "tuple_iterator", data := .fields #[.ref s.heap.objs.size, .int 0 0] }).objs.size = g.objs.size + 1 := Heap.size_push ..
  have old : ∀ c o, s.heap.get? c = some o → ((g.push { cls := .type "tuple_iterator", data := .fields #[.ref s.heap.objs.size, .int 0 0] }).push { cls := .type "list", data := .seq #[] }).get? c = some o := fun c o e =>
    Heap.get?_push_of_some _ (Heap.get?_push_of_some _ (up c o e))
  have W : Walks prog w A.in1 g.objs.size [g.objs.size, s.heap.objs.size] [g.objs.size] (#[a, b] : Array Value).size (fun i v => (#[a, b] : Array Value)[i]? = some v) (fun i h => h.IsTupleIter g.objs.size s.heap.objs.size i ∧ h.IsTuple s.heap.objs.size #[a, b]) :=
    Walks.tuple (A := A.in1) hh _ _ (by rw [gs]; exact Nat.ne_of_lt (Nat.lt_succ_self _)) #[a, b]
  refine wpAny_bind (wpAny_newObj_type ?_)
  rw [hid]
  refine wpAny_pure ⟨plainId_quiet F.plain_min_loop _, min_first (g := s.heap) (d := x) (ds := [y]) W C ⟨rfl, fun i v hi => ?_⟩ (fun hm => ?_) (Heap.get?_none_of_le (by rw [sz, gs]; omega)) (fun c hb => ?_) ⟨⟨_, Heap.get?_push_of_some _ (Heap.get?_push_size _ rfl), rfl, rfl⟩, (ht.push _).push _⟩ old em (Heap.get?_push_size _ rfl) fun u h' tk tu kept => ?_⟩
  · match i, hi with
    | 0, hi =>
      cases hi
      exact ⟨x, rfl, ta⟩
    | 1, hi =>
      cases hi
      exact ⟨y, rfl, tb⟩
    | i + 2, hi => simp at hi
  · rcases List.mem_cons.mp hm with e | hm
    · have : (g.push { cls := .type "tuple_iterator", data := .fields #[.ref s.heap.objs.size, .int 0 0] }).objs.size = g.objs.size := e
      rw [sz] at this
      exact absurd this (Nat.succ_ne_self _)
    · have e : (g.push { cls := .type "tuple_iterator", data := .fields #[.ref s.heap.objs.size, .int 0 0] }).objs.size = s.heap.objs.size := by simpa using hm
      rw [sz, gs] at e
      omega
  · have e : c = g.objs.size := by simpa using hb
    rw [e]
    exact Heap.get?_none_of_le (by rw [gs]; omega)
  · refine hQ u h' tk tu fun c o e => kept c o (fun hm => ?_) (fun z => ?_) (old c o e)
    · have z : c = g.objs.size := by simpa using hm
      rw [z] at e
      have := Heap.lt_size e
      rw [gs] at this
      exact absurd this (Nat.not_lt.mpr (Nat.le_succ _))
    · have z : c = (g.push { cls := .type "tuple_iterator", data := .fields #[.ref s.heap.objs.size, .int 0 0] }).objs.size := z
      rw [z] at e
      have := Heap.lt_size e
      rw [sz, gs] at this
      exact absurd this (Nat.not_lt.mpr (Nat.le_trans (Nat.le_succ _) (Nat.le_succ _)))
end

section
variable {X : Cx}
/-- values told by data that never change -/
def TellV (K : PySem.W.Frag) (W : Wo) : Value → PyData → Prop := fun u d => ∃ v, RelV v u ∧ Rp K W.F v d
theorem tell_ok {pins : List (Addr × Obj)} {s : Shared} {σ : L2.St} {H : Hp} {W : Wo} {S : Sto} (hu : X.A.units + 65 < cLine) (I : Inv X pins σ H s) (wd : Wd X.K W H S) : Tell X.prog X.w X.A.in1 s.heap (TellV X.K W) := by
  refine ⟨fun s2 v u x y c Q E kept ⟨v1, r1, p1⟩ ⟨v2, r2, p2⟩ e q => ?_⟩
  unfold ltD at e
  split at e
  · rename_i ok
    cases e
    simp only [okLt, Bool.and_eq_true, decide_eq_true_eq] at ok
    obtain ⟨⟨⟨⟨h1, h2⟩, h3⟩, h4⟩, h5⟩ := ok
    obtain ⟨as, g1⟩ := RpH.reads I wd.sub (.inl p1) r1 h2
    obtain ⟨bs, g2⟩ := RpH.reads I wd.sub (.inl p2) r2 h3
    have hn : x ≠ .none := fun z => by
      subst z
      cases h4
    have hu1 : X.A.in1.units = X.A.units + 1 := rfl
    have := PySem.W.rcLt_alike x y X.A.in1 s2 v u as bs (PyProof.Rows.Reads.keeps kept g1) (PyProof.Rows.Reads.keeps kept g2) h1 hn (by omega)
    rw [← ltB_eq x y h1] at this
    exact this X.prog X.w E _ q
  · cases e
def blV : Bl → Value
  | .len => .builtin "len"
  | .sum => .builtin "sum"
  | .mn => .builtin "min"
  | .mx => .builtin "max"
  | .any => .builtin "any"
  | .all => .builtin "all"
  | .sorted => .builtin "sorted"
  | .list => .type "list"
  | .tuple => .type "tuple"
  | .int => .type "int"
  | .abs => .builtin "abs"
  | .dict => .type "dict"
theorem maxI_spec : ∀ (m : Int) (ns : List Int), maxI m ns ∈ m :: ns ∧ ∀ y ∈ m :: ns, y ≤ maxI m ns
  | m, [] => by simp [maxI]
  | m, x :: xs => by
    obtain ⟨h1, h2⟩ := maxI_spec (if m < x then x else m) xs
    unfold maxI
    refine ⟨?_, fun y hy => ?_⟩
    · rcases List.mem_cons.mp h1 with e | e
      · rw [e]
        split <;> simp
      · exact List.mem_cons_of_mem _ (List.mem_cons_of_mem _ e)
    · have h0 : (if m < x then x else m) ≤ maxI (if m < x then x else m) xs := h2 _ List.mem_cons_self
      have h3 : m ≤ (if m < x then x else m) ∧ x ≤ (if m < x then x else m) := by
        split <;> omega
      rcases List.mem_cons.mp hy with e | hy
      · rw [e]
        exact Int.le_trans h3.1 h0
      · rcases List.mem_cons.mp hy with e | hy
        · rw [e]
          exact Int.le_trans h3.2 h0
        · exact h2 y (List.mem_cons_of_mem _ hy)
theorem alikeRow_all : ∀ {ds : List PyData}, alikeRow ds = true → PySem.W.AllAlike ds
  | [], _ => fun _ h => by cases h
  | x :: xs, h => by
    simp only [alikeRow, Bool.and_eq_true, List.all_eq_true] at h
    obtain ⟨⟨h1, h2⟩, h3⟩ := h
    have ih := alikeRow_all h3
    intro d hd e he
    rcases List.mem_cons.mp hd with q | hd <;> rcases List.mem_cons.mp he with q' | he
    · rw [q, q']
      exact h2
    · rw [q]
      exact (h1 e he).1
    · rw [q']
      exact (h1 d hd).2
    · exact ih d hd e he
theorem sortable_of {ds : List PyData} (h : (ds.all isTupD || ds.all noTupD) = true) : PySem.W.Sortable ds := by
  rcases Bool.or_eq_true_iff.mp h with h | h
  · refine .inl fun d hd => ?_
    have := List.all_eq_true.mp h d hd
    cases d with
    | tuple xs =>
      cases xs with
      | nil => cases this
      | cons x r => exact ⟨x, r, rfl⟩
    | _ => cases this
  · refine .inr fun d hd => ?_
    have := List.all_eq_true.mp h d hd
    cases d with
    | none => cases this
    | tuple xs => cases this
    | _ =>
      refine ⟨?_, ?_⟩
      · intro z
        cases z
      · intro _ z
        cases z
theorem eachIs_zip {α β γ : Type} {R : α → β → Prop} {T : β → γ → Prop} : ∀ {vs : List α} {us : List β} {ds : List γ}, Paired (fun v u => R v u) vs us → vs.length = ds.length → PySem.W.EachIs (fun (u : β) (p : α × γ) => R p.1 u) us (vs.zip ds)
  | _, _, [], .nil, _ => .nil
  | _, _, d :: ds, .cons r t, h => .cons r (eachIs_zip (T := T) t (by simpa using h))
theorem rpa_zip {K : PySem.W.Frag} {F : Hp} : ∀ {xs : List V} {ds : List PyData}, RpA K F xs ds → ∀ b ∈ xs.zip ds, Rp K F b.1 b.2
  | _, _, .nil, _, hb => by cases hb
  | _, _, .cons q r, b, hb => by
    rcases List.mem_cons.mp hb with e | hb
    · rw [e]
      exact q
    · exact rpa_zip r b hb
theorem minD_mem : ∀ {m : PyData} {l : List PyData} {r : PyData}, minD m l = some r → r ∈ m :: l
  | m, [], r, h => by
    cases h
    exact List.mem_cons_self
  | m, x :: l, r, h => by
    unfold minD at h
    split at h
    · cases h
    · exact List.mem_cons_of_mem _ (minD_mem h)
    · rcases List.mem_cons.mp (minD_mem h) with e | e
      · rw [e]
        exact List.mem_cons_self
      · exact List.mem_cons_of_mem _ (List.mem_cons_of_mem _ e)
theorem sorted_ok (hu : X.A.units + 65 < cLine) : CallR X (.builtin "sorted") (fun vs H Q => ∃ W S p xs ds ys, Wd X.K W H S ∧ vs = [.ref p] ∧ H p = some (.lst xs) ∧ RpA X.K W.F xs ds ∧ sortD ds = some ys ∧ ∀ q zs, H q = none → RpA X.K W.F zs ys → Q (.ref q) (upd H q (.lst zs))) := by
  intro pins s σ H vs us Q I r ⟨W, S, p, xs, ds, ys, wd, e0, hp, rp, es, q⟩
  subst e0
  obtain ⟨u, rfl, ru⟩ := vals1 r
  cases ru
  unfold sortD at es
  split at es
  · rename_i ok
    cases es
    obtain ⟨o1, o2, o3, o4⟩ := ok
    obtain ⟨z, its, n, rv, hl⟩ := I.hok p _ hp
    have hlen := rp.length
    have e2 : (xs.zip ds).map Prod.snd = ds := List.map_snd_zip (by omega)
    have e1 : (xs.zip ds).map Prod.fst = xs := List.map_fst_zip (by omega)
    have mem : ∀ b ∈ xs.zip ds, Rp X.K W.F b.1 b.2 := by
      exact rpa_zip rp
    have al : PySem.W.AllAlike ((xs.zip ds).map Prod.snd) := by
      rw [e2]
      exact alikeRow_all o1
    have so : PySem.W.Sortable ((xs.zip ds).map Prod.snd) := by
      rw [e2]
      exact sortable_of o3
    refine PySem.W.sorted_data (β := V × PyData) (bs := xs.zip ds) (enc := Prod.snd) (R := fun u b => RelV b.1 u) (vs := its) ⟨_, hl, rfl, n, rfl⟩ (eachIs_zip (T := fun _ _ => True) rv hlen) ?_ al so (by rw [List.length_zip]; exact Nat.le_trans (Nat.min_le_left _ _) z) (fun b hb => ?_) fun out ho eo => ?_
    · have nd : ∀ b ∈ xs.zip ds, noDic b.2 = true := fun b hb => noDics_mem o2 (List.of_mem_zip hb).2
      have go : ∀ {vs : List Value} {bs : List (V × PyData)}, PySem.W.EachIs (fun (u : Value) (b : V × PyData) => RelV b.1 u) vs bs → (∀ b ∈ bs, Rp X.K W.F b.1 b.2 ∧ noDic b.2 = true) → PySem.W.EachIs (fun v b => ∃ as, Reads s.heap v (Prod.snd b) as) vs bs := by
        intro vs bs e h
        induction e with
        | nil => exact .nil
        | cons r t ih =>
          obtain ⟨h1, h2⟩ := h _ List.mem_cons_self
          exact .cons (RpH.reads I wd.sub (.inl h1) r h2) (ih fun b hb => h b (List.mem_cons_of_mem _ hb))
      exact go (eachIs_zip (T := fun _ _ => True) rv hlen) fun b hb => ⟨mem b hb, nd b hb⟩
    · have := of_decide_eq_true (List.all_eq_true.mp o4 b.2 (List.of_mem_zip hb).2)
      omega
    · have em : ((xs.zip ds).mergeSort (PySem.W.dataLe false Prod.snd)).map Prod.snd = ds.mergeSort fun x y => !ltB y x := by
        rw [List.map_mergeSort (s := fun x y => !ltB y x) (fun a ha b hb => ?_), e2]
        rw [PySem.W.dataLe_eq]
        show (!PySem.W.dataLt b.2 a.2) = _
        rw [ltB_eq]
        exact alikeRow_all o1 _ (List.of_mem_zip hb).2 _ (List.of_mem_zip ha).2
      obtain ⟨c, hc⟩ := PyProof.Rows.sortedAll_at s.heap its out.toArray
      have key : ∀ {us : List Value} {bs : List (V × PyData)}, PySem.W.EachIs (fun (u : Value) (b : V × PyData) => RelV b.1 u) us bs → Vals (bs.map Prod.fst) us := by
        intro us bs e
        induction e with
        | nil => exact .nil
        | cons r t ih => exact .cons r ih
      have rz : RpA X.K W.F (((xs.zip ds).mergeSort (PySem.W.dataLe false Prod.snd)).map Prod.fst) (ds.mergeSort fun x y => !ltB y x) := by
        rw [← em]
        have all : ∀ b ∈ (xs.zip ds).mergeSort (PySem.W.dataLe false Prod.snd), Rp X.K W.F b.1 b.2 := fun b hb => mem b ((List.mem_mergeSort).mp hb)
        generalize (xs.zip ds).mergeSort (PySem.W.dataLe false Prod.snd) = l at all
        induction l with
        | nil => exact .nil
        | cons b l ih => exact .cons (all b List.mem_cons_self) (ih fun b hb => all b (List.mem_cons_of_mem _ hb))
      have hq : H (s.heap.objs.size + 1) = none := I.hok.fresh (Nat.le_succ _)
      refine ⟨.ref (s.heap.objs.size + 1), _, I.laid (t' := s.toks) (o := .lst (((xs.zip ds).mergeSort (PySem.W.dataLe false Prod.snd)).map Prod.fst)) (fun _ _ => PyProof.Rows.sortedAll_old) (Nat.le_succ _) ⟨?_, out, c, key eo, hc⟩, rfl, q _ _ hq rz⟩
      rw [List.length_map, List.length_mergeSort, List.length_zip]
      exact Nat.le_trans (Nat.min_le_left _ _) z
  · cases es
/-! a new list of data that lie already, sorted -/
mutual
theorem reads_at {h : Heap} : ∀ {v : Value} {d : PyData} {as : List Addr}, Reads h v d as → ∀ a ∈ as, ∃ o, h.get? a = some o
  | _, _, _, .none, _, m => by cases m
  | _, _, _, .bool _, _, m => by cases m
  | _, _, _, .int _ _, _, m => by cases m
  | _, _, _, .str _ _, _, m => by cases m
  | _, _, _, .list e _ _ r, a, m => by
    rcases List.mem_cons.mp m with z | z
    · exact ⟨_, z ▸ e⟩
    · exact readsAll_at r a z
  | _, _, _, .tuple _ _ _ r, a, m => readsAll_at r a m
  | _, _, _, .dict e _ _ r r', a, m => by
    rcases List.mem_append.mp m with m | m
    · rcases List.mem_cons.mp m with z | z
      · exact ⟨_, z ▸ e⟩
      · exact readsAll_at r a z
    · exact readsAll_at r' a m
theorem readsAll_at {h : Heap} : ∀ {vs : List Value} {ds : List PyData} {as : List Addr}, PySem.ReadsAll h vs ds as → ∀ a ∈ as, ∃ o, h.get? a = some o
  | _, _, _, .nil, _, m => by cases m
  | _, _, _, .cons r r', a, m => by
    rcases List.mem_append.mp m with m | m
    · exact reads_at r a m
    · exact readsAll_at r' a m
end
theorem sort_new {pins : List (Addr × PySem.Obj)} {s : Shared} {σ : L2.St} {H : Hp} {Q : VK} {W : Wo} {S : Sto} {h' : Heap} {tk : Nat} {vs : List Value} {xs : List V} {ds ys : List PyData} {E : Value → Shared → Prop} (hu : X.A.units + 65 < cLine) (I : Inv X pins σ H { s with heap := h', toks := tk }) (rv : Vals xs vs) (wd : Wd X.K W H S) (rp : RpA X.K W.F xs ds)
    (es : sortD ds = some ys) (hz : xs.length ≤ sizeLine) (q : ∀ p zs, H p = none → RpA X.K W.F zs ys → Q (.ref p) (upd H p (.lst zs))) :
    wpAny (model X.prog X.w) X.A.in1 (call (.builtin "list.sort") [.ref h'.objs.size]) (fun _ s2 => EP X pins σ Q (.ref h'.objs.size) s2) E { s with heap := h'.push (seqObj "list" vs.toArray 0), toks := tk } := by
  unfold sortD at es
  split at es
  · rename_i ok
    cases es
    obtain ⟨o1, o2, o3, o4⟩ := ok
    have hlen := rp.length
    have e2 : (xs.zip ds).map Prod.snd = ds := List.map_snd_zip (by omega)
    have mem : ∀ b ∈ xs.zip ds, Rp X.K W.F b.1 b.2 := rpa_zip rp
    have al : PySem.W.AllAlike ((xs.zip ds).map Prod.snd) := by
      rw [e2]
      exact alikeRow_all o1
    have so : PySem.W.Sortable ((xs.zip ds).map Prod.snd) := by
      rw [e2]
      exact sortable_of o3
    have hoL : (h'.push (seqObj "list" vs.toArray 0)).get? h'.objs.size = some (seqObj "list" vs.toArray 0) := Heap.get?_push_size _ rfl
    have nn : h'.get? h'.objs.size = none := Heap.get?_none_of_le (Nat.le_refl _)
    refine PySem.W.list_sort_data (β := V × PyData) (bs := xs.zip ds) (enc := Prod.snd) (R := fun u b => RelV b.1 u) (vs := vs) (s := { s with heap := h'.push (seqObj "list" vs.toArray 0), toks := tk }) hoL (eachIs_zip (T := fun _ _ => True) rv hlen) ?_ al so (by rw [List.length_zip]; exact Nat.le_trans (Nat.min_le_left _ _) hz) (fun b hb => ?_) fun out ho eo => ?_
    · have nd : ∀ b ∈ xs.zip ds, noDic b.2 = true := fun b hb => noDics_mem o2 (List.of_mem_zip hb).2
      have go : ∀ {vs : List Value} {bs : List (V × PyData)}, PySem.W.EachIs (fun (u : Value) (b : V × PyData) => RelV b.1 u) vs bs → (∀ b ∈ bs, Rp X.K W.F b.1 b.2 ∧ noDic b.2 = true) → PySem.W.EachIs (fun v b => ∃ as, Reads (h'.push (seqObj "list" vs.toArray 0)) v (Prod.snd b) as ∧ h'.objs.size ∉ as) vs bs := by
        intro vs bs e h
        have go2 : ∀ {us : List Value} {bs : List (V × PyData)}, PySem.W.EachIs (fun (u : Value) (b : V × PyData) => RelV b.1 u) us bs → (∀ b ∈ bs, Rp X.K W.F b.1 b.2 ∧ noDic b.2 = true) → PySem.W.EachIs (fun v b => ∃ as, Reads (h'.push (seqObj "list" vs.toArray 0)) v (Prod.snd b) as ∧ h'.objs.size ∉ as) us bs := by
          intro us bs e h
          induction e with
          | nil => exact .nil
          | cons r t ih =>
            obtain ⟨h1, h2⟩ := h _ List.mem_cons_self
            obtain ⟨as, k⟩ := RpH.reads I wd.sub (.inl h1) r h2
            refine .cons ⟨as, PyProof.Rows.Reads.keeps (fun b o e => Heap.get?_push_of_some _ e) k, fun m => ?_⟩ (ih fun b hb => h b (List.mem_cons_of_mem _ hb))
            obtain ⟨o, eo⟩ := reads_at k _ m
            have eo : h'.get? h'.objs.size = some o := eo
            rw [nn] at eo
            cases eo
        exact go2 e h
      exact go (eachIs_zip (T := fun _ _ => True) rv hlen) fun b hb => ⟨mem b hb, nd b hb⟩
    · have := of_decide_eq_true (List.all_eq_true.mp o4 b.2 (List.of_mem_zip hb).2)
      show X.A.in1.units + 1 + b.2.depth < cLine
      have e1 : X.A.in1.units = X.A.units + 1 := rfl
      omega
    · have em : ((xs.zip ds).mergeSort (PySem.W.dataLe false Prod.snd)).map Prod.snd = ds.mergeSort fun x y => !ltB y x := by
        rw [List.map_mergeSort (s := fun x y => !ltB y x) (fun a ha b hb => ?_), e2]
        rw [PySem.W.dataLe_eq]
        show (!PySem.W.dataLt b.2 a.2) = _
        rw [ltB_eq]
        exact alikeRow_all o1 _ (List.of_mem_zip hb).2 _ (List.of_mem_zip ha).2
      obtain ⟨c, hc⟩ := PyProof.Rows.sortedHeap_at (vs := vs) (out := out.toArray) hoL
      have key : ∀ {us : List Value} {bs : List (V × PyData)}, PySem.W.EachIs (fun (u : Value) (b : V × PyData) => RelV b.1 u) us bs → Vals (bs.map Prod.fst) us := by
        intro us bs e
        induction e with
        | nil => exact .nil
        | cons r t ih => exact .cons r ih
      have rz : RpA X.K W.F (((xs.zip ds).mergeSort (PySem.W.dataLe false Prod.snd)).map Prod.fst) (ds.mergeSort fun x y => !ltB y x) := by
        rw [← em]
        have all : ∀ b ∈ (xs.zip ds).mergeSort (PySem.W.dataLe false Prod.snd), Rp X.K W.F b.1 b.2 := fun b hb => mem b ((List.mem_mergeSort).mp hb)
        generalize (xs.zip ds).mergeSort (PySem.W.dataLe false Prod.snd) = l at all
        induction l with
        | nil => exact .nil
        | cons b l ih => exact .cons (all b List.mem_cons_self) (ih fun b hb => all b (List.mem_cons_of_mem _ hb))
      have hq : H h'.objs.size = none := I.hok.fresh (Nat.le_refl _)
      refine ⟨.ref h'.objs.size, _, I.laid (t' := tk) (o := .lst (((xs.zip ds).mergeSort (PySem.W.dataLe false Prod.snd)).map Prod.fst)) (fun b u e => ?_) (Nat.le_refl _) ⟨?_, out, c, key eo, hc⟩, rfl, q _ _ hq rz⟩
      · have hb : b < h'.objs.size := Heap.lt_size e
        rw [PyProof.Rows.sortedHeap_old (Nat.ne_of_lt hb) (by rw [size_push']; exact Nat.lt_succ_of_lt hb)]
        exact Heap.get?_push_of_some _ e
      · rw [List.length_map, List.length_mergeSort, List.length_zip]
        exact Nat.le_trans (Nat.min_le_left _ _) hz
  · cases es
theorem rpA_keys {K : PySem.W.Frag} {F : Hp} : ∀ {ws : List (Key × V)} {kvs : List (PyData × PyData)}, RpK K F ws kvs → RpA K F (ws.map fun p => kV p.1) (kvs.map (·.1))
  | _, _, .nil => .nil
  | _, _, .cons e _ r => .cons (rp_kV e) (rpA_keys r)
theorem vals_at : ∀ {xs : List V} {us : List Value}, xs.length = us.length → (∀ (j : Nat) (u : Value), us[j]? = some u → ∃ x, xs[j]? = some x ∧ RelV x u) → Vals xs us
  | [], [], _, _ => .nil
  | x :: xs, u :: us, hl, h => by
    obtain ⟨y, e, r⟩ := h 0 u rfl
    cases e
    exact .cons r (vals_at (by simpa using hl) fun j v e => h (j + 1) v e)
  | [], _ :: _, hl, _ => by cases hl
  | _ :: _, [], hl, _ => by cases hl
/-- sorted(d) -/
theorem sortedK_ok (hc : X.calm = true) (hu : X.A.units + 65 < cLine) : CallR X (.builtin "sorted") (fun vs H Q => ∃ W S p ws kvs ys, Wd X.K W H S ∧ vs = [.ref p] ∧ Rd H p (.dK ws) ∧ RpK X.K W.F ws kvs ∧ sortD (kvs.map (·.1)) = some ys ∧ ∀ q zs, H q = none → RpA X.K W.F zs ys → Q (.ref q) (upd H q (.lst zs))) := by
  intro pins s σ H vs us Q I r ⟨W, S, p, ws, kvs, ys, wd, e0, hp, rp, es, q⟩
  subst e0
  obtain ⟨u, rfl, ru⟩ := vals1 r
  cases ru
  obtain ⟨z, lo, vs, rel, dd⟩ := dk_rd I.hok hp
  obtain ⟨ep, hat⟩ := dd.dictAt
  have hl : ws.length = vs.length := rel.length
  refine Calls.call_function_entry PyProof.Rows.kind_sorted PyProof.Rows.plain_sorted PyProof.Rows.entry_sorted (PyProof.Rows.args_sorted1 _) ?_
  unfold Builtin.«sorted»
  refine wpAny_bind (m := checkCount "sorted" 1 1 _) (wpAny_pure ?_)
  refine wpAny_bind (PySem.W.kdu_collect (A := X.A.in1) (PySem.W.kdl_dict (knd := mixKind X.prog X.w) (kvs := vs) (ep := ep) lo) (I.ok.hd hc) hat (by rw [← hl]; exact z) fun h' tk acc hk hacc => ?_)
  have hal : acc.toList.length = ws.length := by rw [Array.length_toList, hacc.1, hl]
  have rv : Vals (ws.map fun p => kV p.1) acc.toList := vals_at (by rw [List.length_map, hal]) fun j v e => by
    obtain ⟨k, x, e1, e2⟩ := hacc.2 j v (by rw [← Array.getElem?_toList]; exact e)
    have e3 : (vs.map (·.1))[j]? = some k := by rw [List.getElem?_map, e1]; all_goals rfl
    rw [← rel.keys, List.getElem?_map] at e3
    cases e4 : ws[j]? with
    | none => rw [e4] at e3; cases e3
    | some y =>
      rw [e4] at e3
      have e5 : y.1 = k := Option.some.inj e3
      exact ⟨kV y.1, by rw [List.getElem?_map, e4]; rfl, by rw [e5]; exact relV_key (show keyIs k v = true from e2)⟩
  have I1 : Inv X pins σ H { s with heap := h', toks := tk } := I.kept hk
  refine wpAny_bind (wpAny_newList ?_ (by rw [hal]; exact z))
  exact wpAny_bind (wpAny_holding (wpAny_mono (sort_new (s := s) (Q := Q) hu I1 rv wd (rpA_keys rp) es (by rw [List.length_map]; exact z) q) (fun _ s2 h => wpAny_pure ⟨_, rfl, h⟩) fun _ _ h => h))
/-- sum of a tuple -/
theorem cr_sumT (hc : X.calm = true) : CallR X (.builtin "sum") (fun vs H Q => ∃ (a : Addr) (ns : List Int), vs = [V.ref a] ∧ SqT X.K H a (ns.map V.int) ∧ Q (.int ns.sum) H) := by
  intro pins s σ H vs us Q I r h
  obtain ⟨a, ns, rfl, hs, q⟩ := h
  obtain ⟨its, rv, hl, _⟩ := I.tuple hs
  obtain ⟨u, rfl, ru⟩ := vals1 r
  cases ru
  have hi := rv.ints
  obtain ⟨xs, e⟩ := hi.allInts.items
  have hn : numsOf (intItems xs).toList = ns := by rw [← e]; exact hi.numsOf
  rw [nums_intItems] at hn
  have hT : s.heap.IsTuple a its.toArray := hl
  rw [e] at hT
  have hlt : a < s.heap.objs.size := by
    obtain ⟨o, ho, _⟩ := hT
    exact Heap.lt_size ho
  refine call_sum_walkG (wpAny_pyIter_tuple hT ⟨_, _, _, _, _, _, numAt xs, rfl, Walks.tuple (A := X.A.in1) (I.ok.hd hc) _ a (Nat.ne_of_lt hlt) (intItems xs), ?_, ?_, (fun _ _ => intItems_at), fun h' tk t' hk => ?_⟩)
  · exact ⟨⟨_, Heap.get?_push_size _ rfl, rfl, rfl⟩, hT.push _⟩
  · intro b hb
    have hz : (s.heap.push { cls := .type "tuple_iterator", data := .fields #[.ref a, .int 0 0] }).objs.size = s.heap.objs.size + 1 := Heap.size_push ..
    show b < (s.heap.push { cls := .type "tuple_iterator", data := .fields #[.ref a, .int 0 0] }).objs.size
    rw [hz]
    rcases (show b = s.heap.objs.size ∨ b = a by simpa using hb) with z | z
    · rw [z]; exact Nat.lt_succ_self _
    · rw [z]; exact Nat.lt_succ_of_lt hlt
  · have kept : ∀ b o, s.heap.get? b = some o → h'.get? b = some o := fun b o e => hk b o (by
      simp only [List.mem_singleton]
      exact Nat.ne_of_lt (Heap.lt_size e)) (Heap.get?_push_of_some _ e)
    have e2 : preSum (numAt xs) (intItems xs).size = ns.sum := by
      rw [preSum_eq, List.take_of_length_le (by simp [intItems]), hn]
    rw [e2]
    exact ⟨.int ns.sum, H, I.kept kept, ⟨_, rfl⟩, q⟩
theorem pairs_ok {K : PySem.W.Frag} {F : Hp} : ∀ {vs : List V} {ds : List PyData} {kvs : List (PyData × PyData)}, RpA K F vs ds → pairsD ds = some kvs → ∃ (ps : List Addr) (ws : List (Key × V)), vs = ps.map V.ref ∧ Paired (fun p kv => TupP K F p [kV kv.1, kv.2]) ps ws ∧ RpK K F ws kvs
  | _, _, _, .nil, e => by
    cases e
    exact ⟨[], [], rfl, .nil, .nil⟩
  | _, _, _, .cons (d := d) (ds := ds) r rr, e => by
    unfold pairsD at e
    split at e
    · rename_i h
      cases h
    · rename_i k v r' h
      cases h
      split at e
      · rename_i hk
        obtain ⟨ky, hk⟩ := Option.isSome_iff_exists.mp hk
        cases er : pairsD ds with
        | none =>
          rw [er] at e
          cases e
        | some more =>
          rw [er] at e
          cases e
          obtain ⟨ps, ws, rfl, h1, h2⟩ := pairs_ok rr er
          cases r with
          | tup q r =>
            cases r with
            | cons rk r =>
              cases r with
              | cons rv r =>
                cases r
                have ek := keyD_kV hk rk
                subst ek
                exact ⟨_ :: ps, (ky, _) :: ws, rfl, .cons q h1, .cons hk rv h2⟩
      · cases e
    · cases e
/-- dict(t) of a tuple of pairs -/
theorem call_dictPT (hc : X.calm = true) : CallR X (.type "dict") (fun xs H Q => ∃ (a : Addr) (ps : List Addr) (kvs : List (Key × V)), xs = [.ref a] ∧ TupP X.K H a (ps.map V.ref) ∧ Paired (fun p kv => SqT X.K H p [kV kv.1, kv.2]) ps kvs ∧
    ∀ p, H p = none → Q (.ref p) (upd H p (.dK (mergeK [] kvs)))) := by
  intro pins s σ H xs us Q I r q
  obtain ⟨a, ps, kvs, ex, hq, hp, q⟩ := q
  subst ex
  obtain ⟨u, rfl, rx⟩ := vals1 r
  cases rx
  have hT : ∃ (o : PySem.Obj) (its : Array Value) (n : Nat), s.heap.get? a = some o ∧ o.cls = .type "tuple" ∧ o.dict = none ∧ o.data = .seq its n ∧ its.size ≤ sizeLine ∧ Vals (ps.map V.ref) its.toList := by
    rcases hq with ⟨o, e, d⟩ | ⟨o, its, n, e1, e2, d, e3, e4, e5⟩
    · obtain ⟨h1, h2, its, rv, o2, h4, h5, n, h6⟩ := I.hok a _ e
      rw [h1] at h4
      cases h4
      exact ⟨o, its.toArray, n, h1, h5, d, h6, by rw [List.size_toArray, ← rv.length]; exact h2, rv⟩
    · exact ⟨o, its, n, I.kIn a o e1, e2, d, e3, e4, e5⟩
  obtain ⟨o, its, n, g1, g2, g3, g4, g5, rv⟩ := hT
  have ei := refs_at rv
  obtain ⟨prs, rel, hl, hpr⟩ := pairs_of I hp
  have hz : prs.length ≤ sizeLine := by
    rw [hl]
    have := congrArg List.length ei
    rw [List.length_map, Array.length_toList] at this
    omega
  have key : ∃ uvs : List (Value × Value), uvs.length = prs.length ∧ ∀ (j : Nat) (q : Key × Value), prs[j]? = some q → ∃ u, uvs[j]? = some (u, q.2) ∧ keyIs q.1 u = true ∧ ∃ b, ps[j]? = some b ∧ IsTup s.heap b #[u, q.2] := by
    clear ei g4 g5 rv hz rel q hq
    induction prs generalizing ps kvs with
    | nil => exact ⟨[], rfl, fun j q e => by simp at e⟩
    | cons p prs ih =>
      cases ps with
      | nil => cases hl
      | cons b ps =>
        cases hp with
        | cons h0 ht =>
          obtain ⟨uvs, h1, h2⟩ := ih _ _ ht (by simpa using hl) (fun j q e => (by
            obtain ⟨b', u, a1, a2, a3⟩ := hpr (j + 1) q (by simpa using e)
            exact ⟨b', u, by simpa using a1, a2, a3⟩ : ∃ b u, ps[j]? = some b ∧ IsTup s.heap b #[u, q.2] ∧ keyIs q.1 u = true))
          obtain ⟨b', u, a1, a2, a3⟩ := hpr 0 p rfl
          refine ⟨(u, p.2) :: uvs, by simp [h1], fun j q e => ?_⟩
          cases j with
          | zero =>
            have e : p = q := Option.some.inj e
            subst e
            exact ⟨u, rfl, a3, b', a1, a2⟩
          | succ j =>
            obtain ⟨u', c1, c2, b2, c3, c4⟩ := h2 j q (by simpa using e)
            exact ⟨u', by simpa using c1, c2, b2, by simpa using c3, c4⟩
  obtain ⟨uvs, k1, k2⟩ := key
  have back : ∀ (j : Nat) (u v : Value), uvs[j]? = some (u, v) → ∃ q, prs[j]? = some q ∧ q.2 = v ∧ keyIs q.1 u = true ∧ ∃ b, ps[j]? = some b ∧ IsTup s.heap b #[u, v] := fun j u v e => by
    have hj : j < prs.length := by
      rw [← k1]
      exact (List.getElem?_eq_some_iff.mp e).1
    obtain ⟨u', c1, c2, c3⟩ := k2 j prs[j] (List.getElem?_eq_getElem hj)
    rw [e] at c1
    cases c1
    exact ⟨_, List.getElem?_eq_getElem hj, rfl, c2, c3⟩
  refine PySem.call_dict_pairs (knd := mixKind X.prog X.w) (kvs := prs) (PairArg.tuple a its (fun j => ps.getD j 0) uvs) (I.ok.hd hc) ⟨⟨o, n, g1, g2, g3, g4⟩, ?_, fun j k v e => ?_⟩ ?_ (by rw [k1]; exact hz) fun h' tk hd' hk => ?_
  · have := congrArg List.length ei
    rw [List.length_map, Array.length_toList] at this
    rw [this, k1, hl]
  · obtain ⟨q', _, _, _, b, c3, c4⟩ := back j k v e
    have e1 : its.toList[j]? = some (.ref b) := by rw [ei, List.getElem?_map, c3]; rfl
    have e2 : ps.getD j 0 = b := by rw [List.getD_eq_getElem?_getD, c3]; rfl
    refine ⟨?_, ?_⟩
    · show its[j]? = some (.ref (ps.getD j 0))
      rw [e2, ← Array.getElem?_toList]
      exact e1
    · show PairAt s.heap (ps.getD j 0) k v
      rw [e2]
      exact .inl c4
  · exact ⟨k1.symm, fun j k v e => let ⟨q', c1, c2, c3, _⟩ := back j k v e; ⟨q'.1, by rw [c1, ← c2], c3⟩⟩
  · have hm : (s.heap.objs.size == sysModules) = false := beq_eq_false_iff_ne.mpr (Nat.ne_of_gt I.big)
    have hlen : (mergeK [] kvs).length ≤ sizeLine := by
      refine Nat.le_trans (length_mergeK kvs []) ?_
      rw [List.length_nil, Nat.zero_add, rel.length]
      exact hz
    exact ⟨.ref s.heap.objs.size, upd H s.heap.objs.size (.dK (mergeK [] kvs)), I.laid (t' := tk) (fun b o e => hk b o (by simp) e) (Nat.le_refl _) (show ObjOk X.prog X.w _ _ _ (.dK (mergeK [] kvs)) from ⟨hlen, hm, merged [] prs, KV.merge rel .nil, hd'⟩), rfl, q _ (I.hok.fresh (Nat.le_refl _))⟩
/-- what is made new: lists, dicts -/
theorem nw_ok (b : Bl) (hb : b = .list ∨ b = .sorted ∨ b = .dict) (hc : X.calm = true) (hu : X.A.units + 65 < cLine) {pins : List (Addr × PySem.Obj)} {s : Shared} {σ : L2.St} {H : Hp} {v : V} {us : List Value} {Q : VK} {W : Wo} {S : Sto} {x d : PyData} (I : Inv X pins σ H s) (r : Vals [v] us) (wd : Wd X.K W H S)
    (px : RpH X.K W H v x) (eb : bltD b x = some d) (nl : ∀ p ws ds, d = .list ds → H p = none → RpA X.K W.F ws ds → Q (.ref p) (upd H p (.lst ws))) (nd : ∀ p ws ds, d = .dict ds → H p = none → RpK X.K W.F ws ds → Q (.ref p) (upd H p (.dK ws))) :
    wpAny (model X.prog X.w) X.A (call (blV b) us) (EP X pins σ Q) X.xe s := by
  rcases hb with rfl | rfl | rfl
  · simp only [bltD] at eb
    split at eb
    · cases eb
      obtain ⟨p, ws, rfl, h1, r1⟩ := px.list wd.sub
      exact call_list_of pins s σ H _ us Q I r ⟨p, ws, rfl, .inl (.inl (.inl h1)), fun l hl => nl l _ _ rfl hl r1⟩
    · cases eb
      obtain ⟨p, ws, rfl, h1, r1⟩ := px.tup
      exact call_list_of pins s σ H _ us Q I r ⟨p, ws, rfl, .inr (wd.sub.tupP h1).seq, fun l hl => nl l _ _ rfl hl r1⟩
    · cases eb
      obtain ⟨p, ws, rfl, h1, r1⟩ := px.dict wd.sub
      exact call_listD hc pins s σ H _ us Q I r ⟨p, ws, rfl, h1, fun l hl => nl l _ _ rfl hl (rpA_keys r1)⟩
    · cases eb
  · simp only [bltD] at eb
    split at eb
    · rename_i xs
      cases hi : sortD xs with
      | none =>
        rw [hi] at eb
        cases eb
      | some ys =>
        rw [hi] at eb
        cases eb
        obtain ⟨p, ws, rfl, h1, r1⟩ := px.list wd.sub
        exact sorted_ok hu pins s σ H _ us Q I r ⟨W, S, p, ws, xs, ys, wd, rfl, h1, r1, hi, fun p2 zs hn rz => nl p2 _ _ rfl hn rz⟩
    · rename_i kvs
      split at eb
      · cases hi : sortD (kvs.map (·.1)) with
        | none =>
          rw [hi] at eb
          cases eb
        | some ys =>
          rw [hi] at eb
          cases eb
          obtain ⟨p, ws, rfl, h1, r1⟩ := px.dict wd.sub
          exact sortedK_ok hc hu pins s σ H _ us Q I r ⟨W, S, p, ws, kvs, ys, wd, rfl, h1, r1, hi, fun p2 zs hn rz => nl p2 _ _ rfl hn rz⟩
      · cases eb
    · cases eb
  · simp only [bltD] at eb
    split at eb
    · rename_i xs
      cases hi : pairsD xs with
      | none =>
        rw [hi] at eb
        cases eb
      | some kvs =>
        rw [hi] at eb
        cases eb
        obtain ⟨p, ws, rfl, h1, r1⟩ := px.list wd.sub
        obtain ⟨ps, us', rfl, h2, h3⟩ := pairs_ok r1 hi
        have hp : Paired (fun p kv => SqT X.K H p [kV kv.1, kv.2]) ps us' := by
          clear h1 h3 nl nd px r1 r
          induction h2 with
          | nil => exact .nil
          | cons a b ih => exact .cons (wd.sub.tupP a).seq ih
        exact call_dictP hc pins s σ H _ us Q I r ⟨p, ps, us', rfl, .inl (.inl h1), hp, fun l hl => nd l _ _ rfl hl (RpK.merge h3 .nil)⟩
    · rename_i xs
      cases hi : pairsD xs with
      | none =>
        rw [hi] at eb
        cases eb
      | some kvs =>
        rw [hi] at eb
        cases eb
        obtain ⟨p, ws, rfl, h1, r1⟩ := px.tup
        obtain ⟨ps, us', rfl, h2, h3⟩ := pairs_ok r1 hi
        have hp : Paired (fun p kv => SqT X.K H p [kV kv.1, kv.2]) ps us' := by
          clear h1 h3 nl nd px r1 r
          induction h2 with
          | nil => exact .nil
          | cons a b ih => exact .cons (wd.sub.tupP a).seq ih
        exact call_dictPT hc pins s σ H _ us Q I r ⟨p, ps, us', rfl, wd.sub.tupP h1, hp, fun l hl => nd l _ _ rfl hl (RpK.merge h3 .nil)⟩
    · cases eb
      obtain ⟨p, ws, rfl, h1, r1⟩ := px.dict wd.sub
      exact call_dictD pins s σ H _ us Q I r ⟨p, ws, rfl, h1, fun l hl => nd l _ _ rfl hl r1⟩
    · cases eb
theorem bl1_ok (b : Bl) (hc : X.calm = true) (hu : X.A.units + 65 < cLine) {pins : List (Addr × Obj)} {s : Shared} {σ : L2.St} {H : Hp} {v : V} {us : List Value} {Q : VK} {W : Wo} {S : Sto} {x d : PyData} (I : Inv X pins σ H s) (r : Vals [v] us) (wd : Wd X.K W H S)
    (px : RpH X.K W H v x) (eb : bltD b x = some d) (q : Kt X.K W S (.d d) Q) : wpAny (model X.prog X.w) X.A (call (blV b) us) (EP X pins σ Q) X.xe s := by
  have hd := I.ok.hd hc
  cases b with
  | len =>
    simp only [bltD] at eb
    cases hl : lenD x with
    | none =>
      rw [hl] at eb
      cases eb
    | some n =>
      rw [hl] at eb
      cases eb
      unfold lenD at hl
      split at hl
      · cases hl
        obtain ⟨p, ws, rfl, h1, r1⟩ := px.list wd.sub
        refine call_len pins s σ H _ us Q I r ⟨_, ws.length, rfl, .inl ⟨ws, .inl (.inl h1), rfl⟩, ?_⟩
        rw [r1.length]
        exact q.flat wd (.int _)
      · cases hl
        obtain ⟨p, ws, rfl, h1, r1⟩ := px.tup
        refine call_len pins s σ H _ us Q I r ⟨_, ws.length, rfl, .inr ⟨ws, (wd.sub.tupP h1).seq, rfl⟩, ?_⟩
        rw [r1.length]
        exact q.flat wd (.int _)
      · cases px.str
        split at hl
        · rename_i hz
          cases hl
          exact call_len pins s σ H _ us Q I r ⟨_, _, rfl, ⟨szl hz, rfl⟩, q.flat wd (.int _)⟩
        · cases hl
      · cases hl
        obtain ⟨p, ws, rfl, h1, r1⟩ := px.dict wd.sub
        obtain ⟨u, rfl, ru⟩ := vals1 r
        cases ru
        exact d_len I h1 fun t s' I' => ⟨.int _, H, I', ⟨t, rfl⟩, by rw [r1.length]; exact q.flat wd (.int _)⟩
      · cases hl
  | sum =>
    simp only [bltD] at eb
    split at eb
    · rename_i xs
      cases hi : intsD xs with
      | none =>
        rw [hi] at eb
        cases eb
      | some ns =>
        rw [hi] at eb
        cases eb
        obtain ⟨p, ws, rfl, h1, r1⟩ := px.list wd.sub
        cases r1.ints hi
        exact cr_sum hc pins s σ H _ us Q I r ⟨p, ns, rfl, .inl (.inl h1), q.flat wd (.int _)⟩
    · rename_i xs
      cases hi : intsD xs with
      | none =>
        rw [hi] at eb
        cases eb
      | some ns =>
        rw [hi] at eb
        cases eb
        obtain ⟨p, ws, rfl, h1, r1⟩ := px.tup
        cases r1.ints hi
        exact cr_sumT hc pins s σ H _ us Q I r ⟨p, ns, rfl, (wd.sub.tupP h1).seq, q.flat wd (.int _)⟩
    · cases eb
  | mn =>
    simp only [bltD] at eb
    split at eb
    · rename_i y ys
      obtain ⟨p, ws, rfl, h1, r1⟩ := px.list wd.sub
      obtain ⟨u, rfl, ru⟩ := vals1 r
      cases ru
      obtain ⟨z, its, n, rv, hl⟩ := I.hok p _ h1
      refine call_min_data hd ⟨_, hl, rfl, n, rfl⟩ (tell_ok hu I wd) ⟨?_, fun i v hi => ?_⟩ eb fun u h' tk tu kept => ?_
      · rw [List.size_toArray, ← rv.length, r1.length]
      · have hi : its[i]? = some v := by simpa using hi
        have hlt : i < its.length := by
          rcases Nat.lt_or_ge i its.length with q | q
          · exact q
          · rw [List.getElem?_eq_none q] at hi
            cases hi
        have hlt2 : i < (y :: ys).length := by
          rw [← r1.length, rv.length]
          exact hlt
        obtain ⟨w1, g1, g2⟩ := r1.get (List.getElem?_eq_getElem hlt2)
        obtain ⟨u1, g3, g4⟩ := rv.get g1
        rw [hi] at g3
        cases g3
        exact ⟨_, List.getElem?_eq_getElem hlt2, w1, g4, g2⟩
      · obtain ⟨v1, g1, g2⟩ := tu
        exact ⟨v1, H, I.kept kept, g1, q.flat wd g2⟩
    · cases eb
  | mx =>
    simp only [bltD] at eb
    split at eb
    · rename_i xs
      split at eb
      · rename_i n ns hi
        cases eb
        obtain ⟨p, ws, rfl, h1, r1⟩ := px.list wd.sub
        cases r1.ints hi
        refine cr_max hc pins s σ H _ us Q I r ⟨p, n :: ns, rfl, .inl (.inl h1), Nat.succ_pos _, fun m hm hle => ?_⟩
        obtain ⟨g1, g2⟩ := maxI_spec n ns
        have e : m = maxI n ns := Int.le_antisymm (g2 m hm) (hle _ g1)
        rw [e]
        exact q.flat wd (.int _)
      · cases eb
    · cases eb
  | any =>
    simp only [bltD] at eb
    split at eb
    · rename_i xs
      cases hi : boolsD xs with
      | none =>
        rw [hi] at eb
        cases eb
      | some ns =>
        rw [hi] at eb
        cases eb
        obtain ⟨p, ws, rfl, h1, r1⟩ := px.list wd.sub
        cases r1.bools hi
        exact cr_any hc pins s σ H _ us Q I r ⟨p, ns, rfl, .inl (.inl h1), q.flat wd (.bl _)⟩
    · cases eb
  | all =>
    simp only [bltD] at eb
    split at eb
    · rename_i xs
      cases hi : boolsD xs with
      | none =>
        rw [hi] at eb
        cases eb
      | some ns =>
        rw [hi] at eb
        cases eb
        obtain ⟨p, ws, rfl, h1, r1⟩ := px.list wd.sub
        cases r1.bools hi
        exact cr_all hc pins s σ H _ us Q I r ⟨p, ns, rfl, .inl (.inl h1), q.flat wd (.bl _)⟩
    · cases eb
  | sorted => exact nw_ok .sorted (.inr (.inl rfl)) hc hu I r wd px eb (fun p ws ds e hn rz => by subst e; exact q.newL wd rz hn) (fun p ws ds e hn rz => by subst e; exact q.newD wd rz hn)
  | list => exact nw_ok .list (.inl rfl) hc hu I r wd px eb (fun p ws ds e hn rz => by subst e; exact q.newL wd rz hn) (fun p ws ds e hn rz => by subst e; exact q.newD wd rz hn)
  | dict => exact nw_ok .dict (.inr (.inr rfl)) hc hu I r wd px eb (fun p ws ds e hn rz => by subst e; exact q.newL wd rz hn) (fun p ws ds e hn rz => by subst e; exact q.newD wd rz hn)
  | tuple =>
    simp only [bltD] at eb
    split at eb
    · cases eb
      obtain ⟨p, ws, rfl, h1, r1⟩ := px.list wd.sub
      exact call_tupP pins s σ H _ us Q I r ⟨p, ws, rfl, .inl ⟨.inl (.inl h1), q.newT wd r1⟩⟩
    · cases eb
      obtain ⟨p, ws, rfl, h1, r1⟩ := px.tup
      exact call_tupP pins s σ H _ us Q I r ⟨p, ws, rfl, .inr ⟨(wd.sub.tupP h1).seq, q.flat wd (.tup h1 r1)⟩⟩
    · cases eb
  | int =>
    simp only [bltD] at eb
    split at eb
    · cases eb
      cases px.int
      exact call_int1 pins s σ H _ us Q I r (.inl ⟨_, rfl, q.flat wd (.int _)⟩)
    · cases eb
  | abs =>
    simp only [bltD] at eb
    split at eb
    · cases eb
      cases px.int
      exact call_abs pins s σ H _ us Q I r ⟨_, rfl, q.flat wd (.int _)⟩
    · cases eb
theorem bl_ok (b : Bl) (hc : X.calm = true) (hu : X.A.units + 65 < cLine) : CallR X (blV b) (rL X.K (bltF b)) := by
  intro pins s σ H vs us Q I r ⟨W, S, as, c, wd, ra, e, q⟩
  have hd := I.ok.hd hc
  unfold bltF at e
  split at e
  · rename_i a
    obtain ⟨v, rfl, ra1⟩ : ∃ v, vs = [v] ∧ Ra X.K W v a := by
      cases ra with
      | cons r1 t =>
        cases t
        exact ⟨_, rfl, r1⟩
    split at e
    · rename_i ns
      split at e
      · cases e
        obtain ⟨p, rfl, hq⟩ := ra1
        refine call_list_of pins s σ H _ us Q I r ⟨p, _, rfl, .inl (wd.sub.seqL hq), fun l hl => q.newL wd ?_ hl⟩
        clear hq q r ra
        induction ns with
        | nil => exact .nil
        | cons n ns ih => exact .cons (.int n) ih
      · cases e
    · cases hda : deref S a with
      | none =>
        rw [hda] at e
        cases e
      | some x =>
        cases eb : bltD b x with
        | none =>
          simp only [hda, Option.bind_some, eb, Option.map_none] at e
          cases e
        | some d =>
          simp only [hda, Option.bind_some, eb, Option.map_some] at e
          cases e
          exact bl1_ok b hc hu I r wd (wd.deref ra1 hda) eb q
  · rename_i x y
    cases eb : bltD2 b x y with
    | none =>
      rw [eb] at e
      cases e
    | some d =>
      rw [eb] at e
      cases e
      obtain ⟨v, w', rfl, px, py⟩ : ∃ v w', vs = [v, w'] ∧ Rp X.K W.F v x ∧ Rp X.K W.F w' y := by
        cases ra with
        | cons r1 t =>
          cases t with
          | cons r2 t =>
            cases t
            exact ⟨_, _, rfl, r1, r2⟩
      unfold bltD2 at eb
      split at eb
      · obtain ⟨u1, u2, rfl, ru1, ru2⟩ := vals2 r
        refine call_min_pair hd (tell_ok hu I wd) ⟨v, ru1, px⟩ ⟨w', ru2, py⟩ eb fun u h' tk tu kept => ?_
        obtain ⟨v1, g1, g2⟩ := tu
        exact ⟨v1, H, I.kept kept, g1, q.flat wd g2⟩
      · split at eb
        · cases eb
          cases px
          cases py
          exact call_max2 hc pins s σ H _ us Q I r ⟨_, _, rfl, q.flat wd (.int _)⟩
        · cases eb
      · cases eb
  · cases e
end
end PV

/-! PV8: what is walked: a list, a tuple or a text; enumerate of a list or a tuple. -/
namespace PV
open PySem PySem.Spec PyProof.Rows L2
section
variable {X : Cx} {tg : Expr} {pins : List (Addr × Obj)} {σ : L2.St} {H : Hp} {s : Shared} {R : It → Hp → Prop} {E : Value → Shared → Prop}
theorem it_list {a : Addr} {xs : List V} (I : Inv X pins σ H s) (h : SqL X.K H a xs) (q : R (Itl X.K a) H) : wpAny (model X.prog X.w) X.A (pyIter (.ref a)) (PIE X pins σ tg R) E s := by
  obtain ⟨its, rv, p, hz⟩ := I.list h
  exact wpAny_pyIter_list p.isList (pi_one (tk := s.toks) I _ (turn_list a _) ⟨_, Heap.get?_push_size _ rfl, rfl, rfl⟩ q)
theorem it_tup {a : Addr} {xs : List V} (I : Inv X pins σ H s) (h : SqT X.K H a xs) (q : R (Itt X.K a) H) : wpAny (model X.prog X.w) X.A (pyIter (.ref a)) (PIE X pins σ tg R) E s := by
  obtain ⟨its, rv, p, hz⟩ := I.tuple h
  exact wpAny_pyIter_tuple (show s.heap.IsTuple a its.toArray from p) (pi_one (tk := s.toks) I _ (turn_tuple a _) ⟨_, Heap.get?_push_size _ rfl, rfl, rfl⟩ q)
theorem it_str {x : Str} {t : Tok} (I : Inv X pins σ H s) (q : R (Its x) H) : wpAny (model X.prog X.w) X.A (pyIter (.str x t)) (PIE X pins σ tg R) E s := by
  cases ha : x.cps.all (· < 128)
  · exact wpAny_pyIter_wide ha (pi_one (tk := s.toks) I _ (turn_str _ x t "str_iterator" (.inr rfl)) ⟨_, Heap.get?_push_size _ rfl, rfl, rfl⟩ q)
  · exact wpAny_pyIter_ascii ha (pi_one (tk := s.toks) I _ (turn_str _ x t "str_ascii_iterator" (.inl rfl)) ⟨_, Heap.get?_push_size _ rfl, rfl, rfl⟩ q)

end

/-! ### enumerate of a tuple -/
theorem enum_newT (l : Addr) (items : Array Value) (n : Nat) (dct : Option Addr) (sl : Array (Option Value)) :
    Meets (Builtin.«enumerate.__new__» ⟨[.type "enumerate", .ref l], []⟩) (fun _ R s => s.heap.get? l = some { cls := .type "tuple", dict := dct, data := .seq items n, slots := sl } ∧
      R (.ok (.ret (.ref (s.heap.push { cls := .type "tuple_iterator", data := .fields #[.ref l, .int 0 0] }).objs.size)))
        { s with heap := (s.heap.push { cls := .type "tuple_iterator", data := .fields #[.ref l, .int 0 0] }).push { cls := .type "enumerate", data := .fields #[.none, .bool false, .ref s.heap.objs.size, rawInt 0, .none, .none] } }) :=
  .of_wp fun prog w A R s h => by
    obtain ⟨hp, g, d, tk, os⟩ := s
    obtain ⟨hl, h⟩ := h
    have hsub := sub_enumerate
    have hT : Heap.IsTuple (Shared.heap ⟨hp, g, d, tk, os⟩) l items := ⟨_, hl, rfl, n, rfl⟩
    wp_walk using AutoSeq1.wpAny_loadPart' hl
    refine wpAny_stack_any fun st => wpAny_pure ?_
    split
    · rename_i c _ _ _ _ _
      cases (c == Value.type "enumerate") <;> (wp_walk using AutoSeq1.wpAny_loadPart' hl, wpAny_pyIter_tuple hT; exact ⟨_, rfl, h⟩)
    · wp_walk using AutoSeq1.wpAny_loadPart' hl, wpAny_pyIter_tuple hT
      exact ⟨_, rfl, h⟩
section
variable {prog : Program} {w : World} {A : Around} {E : Value → Shared → Prop} {s : Shared}
theorem call_enumT {l : Addr} {items : Array Value} {Q : Value → Shared → Prop} (hT : s.heap.IsTuple l items)
    (h : ∀ h', IsEnum h' (s.heap.objs.size + 1) s.heap.objs.size 0 .none → h'.IsTupleIter s.heap.objs.size l 0 → (∀ b o, s.heap.get? b = some o → h'.get? b = some o) → Q (.ref (s.heap.objs.size + 1)) { s with heap := h' }) :
    wpAny (model prog w) A (call (.type "enumerate") [.ref l]) Q E s := by
  obtain ⟨⟨c, dct, dt, sl⟩, hl, hc, n, hd⟩ := hT
  obtain rfl : c = .type "tuple" := hc
  obtain rfl : dt = .seq items n := hd
  refine callType_new F.called_enumerate (by decide) (F.typeCall_enumerate_1 _) (F.newCall_enumerate_1 _) (fun obj => F.args_object_init_2 obj _) F.entry_enumerate_new (enum_newT l items n dct sl) ⟨hl, ?_⟩
  generalize hg : s.heap.push { cls := .type "tuple_iterator", data := .fields #[.ref l, .int 0 0] } = g
  have hz : g.objs.size = s.heap.objs.size + 1 := by
    rw [← hg]
    exact Heap.size_push ..
  have up : ∀ b o, s.heap.get? b = some o → g.get? b = some o := fun b o e => by
    rw [← hg]
    exact Heap.get?_push_of_some _ e
  have hi : g.get? s.heap.objs.size = some { cls := .type "tuple_iterator", data := .fields #[.ref l, .int 0 0] } := by
    rw [← hg]
    exact Heap.get?_push_size _ rfl
  rw [hz]
  have he : IsEnum (g.push { cls := .type "enumerate", data := .fields #[.none, .bool false, .ref s.heap.objs.size, rawInt 0, .none, .none] }) (s.heap.objs.size + 1) s.heap.objs.size 0 .none := by
    have := Heap.get?_push_size g (o := { cls := .type "enumerate", data := .fields #[.none, .bool false, .ref s.heap.objs.size, rawInt 0, .none, .none] }) rfl
    rw [hz] at this
    exact this
  exact ⟨⟨_, he, rfl⟩, h _ he ⟨_, Heap.get?_push_of_some _ hi, rfl, rfl⟩ fun b o x => Heap.get?_push_of_some _ (up b o x)⟩
end
/-- the tuple at a as it stands at each turn, each item in a new pair -/
def IteT (K : PySem.W.Frag) (a : Addr) : It :=
  ⟨fun i H => ∃ (xs : List V) (x : V), SqT K H a xs ∧ xs[i]? = some x, fun i H v H' => ∃ T x, v = .ref T ∧ H T = none ∧ H' = upd H T (.tup [.int (i : Nat), x]) ∧ ∀ xs, SqT K H a xs → xs[i]? = some x, fun i H => ∃ xs : List V, SqT K H a xs ∧ xs.length = i⟩
theorem turn_enumT {P : Program} {w : World} {K : PySem.W.Frag} {elts : List Expr} {kk : Nat} {tpos : Pos} (a e it : Addr) :
    Turn P w K (.Tuple elts kk tpos) (IteT K a) [e, it] e (fun i h => (∃ old, IsEnum h e it ((i : Nat) : Int) old) ∧ h.IsTupleIter it a i ∧ e ≠ it ∧ a ≠ it ∧ a ≠ e) where
  mem := by simp
  obj := fun i h st b hb => by
    obtain ⟨⟨old, he⟩, ⟨o, ho, hc, hd⟩, _⟩ := st
    rcases (show b = e ∨ b = it by simpa using hb) with z | z
    · rw [z]
      exact ⟨_, he, fun v q => nomatch q⟩
    · rw [z]
      exact ⟨o, ho, fun v q => by rw [hd] at q; cases q⟩
  keep := fun i h h' st k => by
    obtain ⟨⟨old, he⟩, hi, hne⟩ := st
    exact ⟨⟨old, k e (by simp) _ he⟩, hi.at fun o q => k it (by simp) o q, hne⟩
  item := by
    intro X hP hw hK hc i pins s σ H E I hf st hg
    subst hP hw hK
    obtain ⟨⟨old, he⟩, hit, n1, n2, n3⟩ := st
    obtain ⟨xs, x, hq, hx⟩ := hg
    obtain ⟨its, rv, p, hz⟩ := I.tuple hq
    obtain ⟨u, hu, ru⟩ := rv.get hx
    have hlt : i < its.toArray.size := by
      rcases Nat.lt_or_ge i its.toArray.size with z | z
      · exact z
      · rw [List.getElem?_eq_none (by simpa using z)] at hu
        cases hu
    have D := Draws.tuple (prog := X.prog) (w := X.w) (A := X.A.in1) (I.ok.hd hc) it a n2 its.toArray
    have W := GoesN.enumFrom (elts := elts) (x1 := kk) (pos := tpos) 0 D e n1 (by simp; exact ⟨n1, Ne.symm n3⟩) (by simp)
    refine W.goes i s _ _ hlt ⟨⟨old, by rw [Int.zero_add]; exact he⟩, hit, p⟩ fun v h' tk hy st' kept htk => ?_
    obtain ⟨T, t, y, rfl, hT, hy, tt⟩ := hy
    have ey : y = u := by
      have : its[i]? = some y := by simpa using hy
      rw [hu] at this
      exact (Option.some.inj this).symm
    subst ey
    rw [Int.zero_add] at tt
    have new : ObjOk X.prog X.w (upd H T (.tup [.int (i : Nat), x])) h' T (.tup [.int (i : Nat), x]) := ⟨by show 2 ≤ sizeLine; decide, [.int i t, y], .cons ⟨_, rfl⟩ (.cons ru .nil), tt⟩
    have I1 : Inv X pins σ (upd H T (.tup [.int (i : Nat), x])) { s with heap := h', toks := tk } := I.turnedNew (ch := [e, it]) (fun b ob hb q => kept b ob hb q) hf hT new
    obtain ⟨⟨old', he'⟩, hit', _⟩ := st'
    refine ⟨.ref T, _, I1, rfl, ⟨T, x, rfl, I.hok.fresh hT, rfl, fun ys hy => by rw [I.tuple_inj hy hq]; exact hx⟩, ⟨⟨old', ?_⟩, hit', n1, n2, n3⟩, fun b hb => ?_⟩
    · rw [Int.zero_add] at he'
      exact he'
    · have hb' : b < s.heap.objs.size := by
        rcases (show b = e ∨ b = it by simpa using hb) with z | z
        · rw [z]
          exact Heap.lt_size he
        · rw [z]
          obtain ⟨_, q, _⟩ := hit
          exact Heap.lt_size q
      rw [upd_ne (Nat.ne_of_lt (Nat.lt_of_lt_of_le hb' hT))]
      exact (hf b hb).1
  done := by
    intro X hP hw hK hc i pins s σ H E I hf st hg
    subst hP hw hK
    obtain ⟨⟨old, he⟩, hit, n1, n2, n3⟩ := st
    obtain ⟨xs, hq, hx⟩ := hg
    obtain ⟨its, rv, p, hz⟩ := I.tuple hq
    have D := Draws.tuple (prog := X.prog) (w := X.w) (A := X.A.in1) (I.ok.hd hc) it a n2 its.toArray
    have W := GoesN.enumFrom (elts := elts) (x1 := kk) (pos := tpos) 0 D e n1 (by simp; exact ⟨n1, Ne.symm n3⟩) (by simp)
    have hn : its.toArray.size = i := by
      rw [List.size_toArray, ← rv.length]
      exact hx
    refine W.stops s _ _ ⟨⟨old, by rw [Int.zero_add, hn]; exact he⟩, by rw [hn]; exact hit, p⟩ fun h' tk kept htk => ?_
    exact I.turnedL (ch := [e, it]) (fun b ob hb q => kept b ob hb q) hf
  self := fun A i s Q E st h => by
    obtain ⟨⟨_, he⟩, _⟩ := st
    exact wpAny_pyIter_enum he h
def iEnumA (K : PySem.W.Frag) (ta : TA) : TI := fun σ H R => ta σ H fun vs H1 => ∃ a xs, vs = [.ref a] ∧ ((SqL K H1 a xs ∧ (xs.length ≤ sizeLine → R (Ite K a) H1)) ∨ (SqT K H1 a xs ∧ (xs.length ≤ sizeLine → R (IteT K a) H1)))
theorem pi_enumA {X : Cx} {e : Expr} {ta : TA} {p pos tpos : Pos} {elts : List Expr} {kk : Nat} (hg : Gl X "enumerate") (hm : X.mg "enumerate" = none) (ha : PA X [e] ta) (hs : starEach [e] X.env = [(false, eval e X.env)]) :
    PI X (.Tuple elts kk tpos) (.Call (.Name "enumerate" p) [e] [] pos) (iEnumA X.K ta) := by
  refine ⟨fun pins s σ H R I h => ?_⟩
  refine Call_ (ld_blt I hg hm boot_enumerate (PyProof.Rows.callWith_type1 (thn (ha.run pos pins s σ H _ I h) fun us s1 ⟨vs, H1, I1, r1, q1⟩ => ?_) hs rfl))
  obtain ⟨a, xs, ex, q⟩ := q1
  subst ex
  obtain ⟨u, rfl, ru⟩ := vals1 r1
  cases ru
  have fin : ∀ {J : It} {h' : Heap} {tn : Nat → Heap → Prop}, (∀ b o, s1.heap.get? b = some o → h'.get? b = some o) → Turn X.prog X.w X.K (.Tuple elts kk tpos) J [s1.heap.objs.size + 1, s1.heap.objs.size] (s1.heap.objs.size + 1) tn → tn 0 h' → R J H1 → PIE X pins σ (.Tuple elts kk tpos) R (.ref (s1.heap.objs.size + 1)) { s1 with heap := h' } := fun {J h' tn} hk T st q => by
    have I2 : Inv X pins σ H1 { s1 with heap := h' } := I1.kept (t' := s1.toks) hk
    refine ⟨s1.heap.objs.size + 1, [s1.heap.objs.size + 1, s1.heap.objs.size], tn, J, H1, rfl, I2, T, st, fun b hb => ?_, q⟩
    have hle : s1.heap.objs.size ≤ b := by
      rcases (show b = s1.heap.objs.size + 1 ∨ b = s1.heap.objs.size by simpa using hb) with z | z
      · rw [z]
        exact Nat.le_add_right _ _
      · rw [z]
        exact Nat.le_refl _
    exact I1.fpOk hle (I1.hok.fresh hle)
  rcases q with ⟨hq, q⟩ | ⟨hq, q⟩
  · obtain ⟨its, rv, p', hz⟩ := I1.list hq
    exact call_enumerate_list p'.isList fun h' he hit hsz hk => wpAny_pyIter_enum he (fin hk (turn_enum a _ _) ⟨⟨.none, he⟩, hit, Nat.succ_ne_self _⟩ (q hz))
  · obtain ⟨its, rv, p', hz⟩ := I1.tuple hq
    have la : a < s1.heap.objs.size := p'.lt
    exact call_enumT p' fun h' he hit hk => wpAny_pyIter_enum he (fin hk (turn_enumT a _ _) ⟨⟨.none, he⟩, hit, Nat.succ_ne_self _, Nat.ne_of_lt la, Nat.ne_of_lt (Nat.lt_succ_of_lt la)⟩ (q hz))

/-! ### dicts that are walked: locked, and let go -/
def NF (X : Cx) (d : Addr) : Prop := ∀ o' u', X.H_0 d ≠ some (.frz o' u')
/-- what is wished, now or behind letting go -/
def UN {α : Type} (X : Cx) (Q : α → Hp → Prop) : α → Hp → Prop := fun v H => Q v H ∨ ∃ d od u, H d = some (.frz od u) ∧ NF X d ∧ Q v (upd H d u)
section
variable {X : Cx} {tg e : Expr} {td : TE} {apos cpos : Pos}
theorem pe_unl {t : TE} (h : PE X e t) : PE X e (fun σ H Q => t σ H (UN X Q)) := ⟨fun pins s σ H Q I q => thn (h.run pins s σ H _ I q) fun v s1 ⟨x, H1, I1, r, q1⟩ => by
  rcases q1 with q1 | ⟨d, od, u, e1, nf, q1⟩
  · exact ⟨x, H1, I1, r, q1⟩
  · exact ⟨x, _, I1.unlock e1 nf, r, q1⟩⟩
theorem ps_unl {st : Stmt} {t : TS} (h : PS X st t) : PS X st (fun D σ H => t ⟨UN X D.nx, D.rt, D.bk, D.ct⟩ σ H) := ⟨fun pins s σ H D I q => thn (h.run pins s σ H _ I q) fun f s1 q => by
  cases f with
  | next =>
    obtain ⟨σ', H', I', q⟩ := q
    rcases q with q | ⟨d, od, u, e1, nf, q⟩
    · exact ⟨σ', H', I', q⟩
    · exact ⟨σ', _, I'.unlock e1 nf, q⟩
  | brk => exact q
  | cont => exact q
  | ret v => exact q⟩
/-- a dict is walked by its keys -/
def iKeysU (X : Cx) (td : TE) : TI := fun σ H R => td σ H fun x H1 => ∃ d kvs, x = .ref d ∧ ((∃ o, H1 d = some (.frz o (.dK kvs)) ∧ (kvs.length ≤ sizeLine → R (Itk d o kvs) H1)) ∨ (H1 d = some (.dK kvs) ∧ (kvs.length ≤ sizeLine → NF X d → ∀ o, R (Itk d o kvs) (upd H1 d (.frz o (.dK kvs))))))
theorem it_keysU {pins : List (Addr × PySem.Obj)} {σ : L2.St} {H1 : Hp} {s1 : Shared} {R : It → Hp → Prop} {d : Addr} {kvs : List (Key × V)} (I1 : Inv X pins σ H1 s1) (q : (∃ o, H1 d = some (.frz o (.dK kvs)) ∧ (kvs.length ≤ sizeLine → R (Itk d o kvs) H1)) ∨ (H1 d = some (.dK kvs) ∧ (kvs.length ≤ sizeLine → NF X d → ∀ o, R (Itk d o kvs) (upd H1 d (.frz o (.dK kvs)))))) :
    wpAny (model X.prog X.w) X.A (pyIter (.ref d)) (PIE X pins σ tg R) X.xe s1 := by
  have go : ∀ {H2 : Hp} {o : PySem.Obj}, Inv X pins σ H2 s1 → H2 d = some (.frz o (.dK kvs)) → R (Itk d o kvs) H2 → wpAny (model X.prog X.w) X.A (pyIter (.ref d)) (PIE X pins σ tg R) X.xe s1 := fun {H2 o} I2 hd q => by
    obtain ⟨hs, hgd, hx, es, ep, vs, hdt, hsz, kv, hm⟩ := I2.frzK hd
    refine iter_keys hs hgd hx hdt (pi_one (tk := s1.toks) I2 _ (turn_keys _ hdt) ⟨_, Heap.get?_push_size _ rfl, rfl, ?_⟩ q)
    rw [hsz] <;> rfl
  rcases q with ⟨o, hd, q⟩ | ⟨hd, q⟩
  · exact go I1 hd (q (dk_rd I1.hok (.inr ⟨o, hd⟩)).1)
  · obtain ⟨od, I2⟩ := I1.lock hd True.intro
    exact go I2 upd_same (q (dk_rd I1.hok (.inl hd)).1 (I1.nofrz hd True.intro) od)
def iSeq (X : Cx) (te : TE) : TI := fun σ H R => te σ H fun v H1 => (∃ a xs, v = .ref a ∧ SqL X.K H1 a xs ∧ (xs.length ≤ sizeLine → R (Itl X.K a) H1)) ∨ (∃ a xs, v = .ref a ∧ SqT X.K H1 a xs ∧ (xs.length ≤ sizeLine → R (Itt X.K a) H1)) ∨ (∃ x, v = .str x ∧ R (Its x) H1) ∨
  ∃ d kvs, v = .ref d ∧ ((∃ o, H1 d = some (.frz o (.dK kvs)) ∧ (kvs.length ≤ sizeLine → R (Itk d o kvs) H1)) ∨ (H1 d = some (.dK kvs) ∧ (kvs.length ≤ sizeLine → NF X d → ∀ o, R (Itk d o kvs) (upd H1 d (.frz o (.dK kvs))))))
theorem pi_seq {te : TE} (he : PE X e te) : PI X tg e (iSeq X te) := by
  refine ⟨fun pins s σ H R I h => ?_⟩
  refine thn (he.run pins s σ H _ I h) fun v s1 ⟨x, H1, I1, r1, q1⟩ => ?_
  rcases q1 with ⟨a, xs, rfl, h1, q⟩ | ⟨a, xs, rfl, h1, q⟩ | ⟨z, rfl, q⟩ | ⟨d, kvs, rfl, q⟩
  · cases r1
    obtain ⟨_, _, _, hz⟩ := I1.list h1
    exact it_list I1 h1 (q hz)
  · cases r1
    obtain ⟨_, _, _, hz⟩ := I1.tuple h1
    exact it_tup I1 h1 (q hz)
  · obtain ⟨t, rfl⟩ := r1
    exact it_str I1 q
  · cases r1
    exact it_keysU I1 q
/-- .. by its pairs, each a new tuple -/
def iItemsU (X : Cx) (td : TE) : TI := fun σ H R => td σ H fun x H1 => ∃ d kvs, x = .ref d ∧ ((∃ o, H1 d = some (.frz o (.dK kvs)) ∧ (kvs.length ≤ sizeLine → R (Iti d o kvs) H1)) ∨ (H1 d = some (.dK kvs) ∧ (kvs.length ≤ sizeLine → NF X d → ∀ o, R (Iti d o kvs) (upd H1 d (.frz o (.dK kvs))))))
theorem pi_itemsU {elts : List Expr} {kk : Nat} {tpos : Pos} (he : PE X e td) (hbase : attributeBase e "items" X.env (eval e X.env) = eval e X.env) (hline : (apos.endLine == cpos.line) = true) :
    PI X (.Tuple elts kk tpos) (.Call (.Attribute e "items" apos) [] [] cpos) (iItemsU X td) := by
  refine ⟨fun pins s σ H R I h => ?_⟩
  refine wpAny_Call_method (T := "dict") (id := "dict.items") hbase rfl hline F.plainAttrs_dict F.slot_dict_items F.type_dict_items (thn (he.run pins s σ H _ I h) fun u s1 ⟨x, H0, I0, rx, d, kvs, ex, q⟩ => ?_)
  subst ex
  obtain rfl : u = Value.ref d := rx
  obtain ⟨H1, o, I1, hd, q⟩ : ∃ H1 o, Inv X pins σ H1 s1 ∧ H1 d = some (.frz o (.dK kvs)) ∧ R (Iti d o kvs) H1 := by
    rcases q with ⟨o, hd, q⟩ | ⟨hd, q⟩
    · exact ⟨H0, o, I0, hd, q (dk_rd I0.hok (.inr ⟨o, hd⟩)).1⟩
    · obtain ⟨od, I2⟩ := I0.lock hd True.intro
      exact ⟨_, od, I2, upd_same, q (dk_rd I0.hok (.inl hd)).1 (I0.nofrz hd True.intro) od⟩
  obtain ⟨hs, hgd, hx, es, ep, vs, hdt, hsz, kv, hm⟩ := I1.frzK hd
  have hl : kvs.length = vs.length := Paired.length kv
  refine ⟨hm.dictOf.typeIs, hm.dictOf.mapOf.noDict, ?_⟩
  have I2 : Inv X pins σ H1 { s1 with heap := s1.heap.push { cls := .type "dict_items", data := .fields #[.ref d] } } := I1.kept (t' := s1.toks) fun b ob q => Heap.get?_push_of_some _ q
  have fin : wpAny (model X.prog X.w) X.A (pyIter (.ref s1.heap.objs.size)) (PIE X pins σ (.Tuple elts kk tpos) R) X.xe { s1 with heap := s1.heap.push { cls := .type "dict_items", data := .fields #[.ref d] } } := by
    refine wpAny_pyIter_items (d := d) (knd := mixKind X.prog X.w) ⟨_, Heap.get?_push_size _ rfl, rfl, rfl⟩ (hm.push _) (pi_one (tk := s1.toks) I2 _ (turn_items _ hdt) ⟨.none, .none, ?_⟩ q)
    rw [hl]
    exact Heap.get?_push_size _ rfl
  show wpAny _ _ (callWith cpos (.builtin "dict.items") [.ref d] [] []) _ X.xe s1
  exact method_meetsIn F.slot_dict_items F.entry_dict_items rfl (PySem.evalArgs_none ⟨rfl, hm.dictOf.typeIs, F.args_dict_items_1 _, _, meets_dict_items (mixKind X.prog X.w) d hs, ⟨vs, hm.dictOf⟩, fin⟩)
/-- name = {..} on one line, the name a local -/
theorem ps_setDc {i : Nat} {y : Str} {py : Pos} {kx vx tg iter : Expr} {ifs : List Expr} {scope : Scope} {own : List (Str × Nat)} {pos spos : Pos} {wi : TI} {g : TG} {tt : TT} {tk tv : TE} (hc : X.calm = true) (hN : X.N.Nodup) (hy : X.N[i]? = some y) (hyl : X.env.scope.names.lookup y = some .local)
    (hsw : swapsWith (.DictComp kx vx [⟨tg, iter, ifs, 0⟩] scope pos) (some (.Name y py)) spos.line X.env = pure true) (hi : PI X tg iter wi) (ok : BlkOk X.N X.env.scope scope own)
    (hg : ∀ (s : Shared) (H : Hp) (C : Addr) (cl : List (Str × Addr)) (fp : List Addr), PG (X.blk s H scope (compEnvC scope cl C X.env) fp) tg g) (ht : ∀ (s : Shared) (H : Hp) (C : Addr) (cl : List (Str × Addr)) (fp : List Addr), PTs (X.blk s H scope (compEnvC scope cl C X.env) fp) ifs tt)
    (hk : ∀ (s : Shared) (H : Hp) (C : Addr) (cl : List (Str × Addr)) (fp : List Addr), PE (X.blk s H scope (compEnvC scope cl C X.env) fp) kx tk) (hv : ∀ (s : Shared) (H : Hp) (C : Addr) (cl : List (Str × Addr)) (fp : List Addr), PE (X.blk s H scope (compEnvC scope cl C X.env) fp) vx tv) (hs : ∀ x, foldedSetIterable iter X.env x = pure x) :
    PS X (.Assign [.Name y py] (.DictComp kx vx [⟨tg, iter, ifs, 0⟩] scope pos) spos) (tAsg (tDc wi g tt tk tv (own.map (·.2))) (gName i)) := by
  refine ⟨fun pins s σ H D I h => ?_⟩
  rw [exec_Assign_Name_used _ _ _ _ hsw]
  refine wpAny_bind (wpAny_standAt (wpAny_bind ?_))
  show wpAny _ X.A (do let _ ← comprehension (.DictComp kx vx [⟨tg, iter, ifs, 0⟩] scope pos) scope X.env (firstIterPos [⟨tg, iter, ifs, 0⟩] pos) newDict false (eval iter X.env) (some (assign (.Name y py) X.env))) _ _ s
  have h : tDc wi g tt tk tv (own.map (·.2)) σ H (fun x H1 => gName i x σ H1 D.nx) := h
  refine wpAny_bind (thn (dc_core (Qf := fun _ s' => SP X pins D .next s') hc hN I hi ok hg ht hk hv hs h fun L C s' m H' I' q hn f => ?_) fun _ s' hq => wpAny_pure (wpAny_pure hq))
  show wpAny _ _ (assign (.Name y py) X.env (.ref L)) _ _ _
  refine wpAny_assign_Name (store_ok2 (v := V.ref L) I' hN hy (.inl hyl) rfl (fun s2 I2 ⟨a, sb, ha⟩ => ?_) (.inr hyl))
  obtain ⟨f0, f1, f2, f3, f4, f5⟩ := f
  have haC : C ≠ a := by
    rcases ha with z | z
    · rw [z]
      exact f1
    · exact fun e => f4 y a z e.symm
  refine ⟨m, hn.sameBut sb haC, fun h3 sb3 => ?_⟩
  exact ⟨_, H', I2.turned (t' := s2.toks) (fun b o hb e => (sb3.2 b hb).trans e) f0 f1 f3 f4 f5, q⟩
end
end PV

/-! PV9: a term held against the text. -/
namespace PV
open PySem PySem.Spec PyProof.Rows L2

/-- the names: defs with the number of their parameters, constants -/
structure Nm where
  fn : List (Str × Nat)
  gl : List Str
def isVis (sc : Scope) (x : Str) : Bool := match sc.names.lookup x with
  | some .local => true
  | some .cell => true
  | some .free => true
  | _ => false
def isGl (sc : Scope) (x : Str) : Bool := match sc.names.lookup x with
  | some .globalImplicit => true
  | _ => false
def isLoc (sc : Scope) (ow : Str → Bool) (x : Str) : Bool := match sc.names.lookup x with
  | some .local => true
  | some .cell => ow x
  | _ => false
def plainNm (x : Str) : Bool := decide (x ≠ "__name__") && !(x == ("__debug__" : Str)) && !(x == ("__classdict__" : Str))
def Bl.nm : Bl → Str
  | .len => "len"
  | .sum => "sum"
  | .mn => "min"
  | .mx => "max"
  | .any => "any"
  | .all => "all"
  | .sorted => "sorted"
  | .list => "list"
  | .tuple => "tuple"
  | .int => "int"
  | .abs => "abs"
  | .dict => "dict"
def Mth.nm : Mth → Str
  | .count => "count"
  | .index => "index"
def notSt : Expr → Bool
  | .Starred _ _ => false
  | _ => true
def notSl : Expr → Bool
  | .Slice _ _ _ _ => false
  | _ => true
def notSet : Expr → Bool
  | .Set _ _ _ => false
  | _ => true
def notCall : Expr → Bool
  | .Call _ _ _ _ => false
  | _ => true
def cstOk (c : PyData) : Const → Bool
  | .none => match c with | .none => true | _ => false
  | .bool b => match c with | .bool b' => b == b' | _ => false
  | .int i => match c with | .int i' => decide (i = i') | _ => false
  | .str x => match c with | .str x' => decide (x = x') | _ => false
  | _ => false
def tyNm (sc : Scope) (t : Ty) : Expr → Bool
  | .Name x _ => decide (x = Str.ofString t.nm) && isGl sc x
  | _ => false
def tyNms (sc : Scope) : List Ty → List Expr → Bool
  | [], [] => true
  | t :: ts, e :: es => tyNm sc t e && tyNms sc ts es
  | _, _ => false
/-- a comprehension's scope as it runs -/
def inSc (scope sc : Scope) : Scope := relS scope sc
def ownOf (N : List Str) (l : List Nat) : List (Str × Nat) := l.map fun i => (N.getD i "", i)
section
variable (nm : Nm) (N : List Str)
mutual
def agE (sc : Scope) (ow : Str → Bool) : Ex → Expr → Bool
  | .var i, e => match e with
    | .Name x _ => decide (N[i]? = some x) && isVis sc x && plainNm x
    | _ => false
  | .cst c, e => match e with
    | .Constant k _ _ => cstOk c k
    | _ => false
  | .glb i, e => match e with
    | .Name x _ => decide (nm.gl[i]? = some x) && isGl sc x && plainNm x
    | _ => false
  | .tup es, e => match e with
    | .Tuple xs _ _ => decide (xs.length ≤ 1000) && agEs sc ow es xs
    | _ => false
  | .lst es, e => match e with
    | .List xs _ => decide (xs.length ≤ 1000) && agEs sc ow es xs
    | _ => false
  | .fresh a, e => (match a with
    | .lst _ => true
    | .comp _ _ _ _ => true
    | .lrg _ => true
    | .blt .list _ => true
    | .blt .sorted _ => true
    | .lrg2 _ _ => true
    | .its _ _ => true
    | .dnew => true
    | .d1 _ _ => true
    | .dcomp _ _ _ _ _ => true
    | .blt .dict _ => true
    | _ => false) && agE sc ow a e
  | .bin o a b, e => match e with
    | .BinOp x o' y _ => decide (o = o') && agE sc ow a x && agE sc ow b y
    | _ => false
  | .neg a, e => match e with
    | .UnaryOp .USub x _ => agE sc ow a x
    | _ => false
  | .cmp o a b, e => match e with
    | .Compare x [o'] [y] _ => decide (o = o') && !(behindInMarks o y) && agE sc ow a x && agE sc ow b y
    | _ => false
  | .chn o p a b c, e => match e with
    | .Compare x [o', p'] [y, z] _ => decide (o = o') && decide (p = p') && !(behindInMarks p z) && agE sc ow a x && agE sc ow b y && agE sc ow c z
    | _ => false
  | .and es, e => match e with
    | .BoolOp .And xs _ => agEs sc ow es xs
    | _ => false
  | .or es, e => match e with
    | .BoolOp .Or xs _ => agEs sc ow es xs
    | _ => false
  | .not a, e => match e with
    | .UnaryOp .Not x _ => agE sc ow a x
    | _ => false
  | .ite t a b, e => match e with
    | .IfExp z x y _ => agE sc ow t z && agE sc ow a x && agE sc ow b y
    | _ => false
  | .ix a i, e => match e with
    | .Subscript x y _ => notSl y && agE sc ow a x && agE sc ow i y
    | _ => false
  | .slc a lo hi, e => match e with
    | .Subscript x (.Slice l h none _) _ => agE sc ow a x && agO sc ow lo l && agO sc ow hi h
    | _ => false
  | .call f es, e => match e with
    | .Call (.Name x _) xs [] _ => decide (nm.fn[f]? = some (x, xs.length)) && isGl sc x && plainNm x && agEs sc ow es xs
    | _ => false
  | .blt b es, e => match e with
    | .Call (.Name x _) (y :: ys) [] _ => decide (x = b.nm) && isGl sc x && agEs sc ow es (y :: ys)
    | _ => false
  | .isi a ts, e => match e with
    | .Call (.Name x _) [y, z] [] _ => decide (x = "isinstance") && isGl sc x && notSt y && agE sc ow a y && (match z with
      | .Tuple zs _ _ => decide (ts.length ≤ 1000) && tyNms sc ts zs
      | z => match ts with
        | [t] => tyNm sc t z
        | _ => false)
    | _ => false
  | .comp t it ifs a, e => match e with
    | .ListComp x [⟨tg, iter, cs, k⟩] scope _ => decide (k = 0) && blkC N sc scope (ownOf N t.slots) && agI sc ow it tg iter && agT (inSc scope sc) (fun x => scope.names.lookup x == some .cell) false t tg &&
        decide (cs.length ≤ 1) && agEs (inSc scope sc) (fun x => scope.names.lookup x == some .cell) ifs cs && agE (inSc scope sc) (fun x => scope.names.lookup x == some .cell) a x
    | _ => false
  | .mth m o a, e => match e with
    | .Call (.Attribute x f ap) [y] [] cp => decide (f = m.nm) && notCall x && notSt y && (ap.endLine == cp.line) && agE sc ow o x && agE sc ow a y
    | _ => false
  | .lrg2 a b, e => match e with
    | .Call (.Name x _) [.Call (.Name y _) [z, v] [] _] [] _ => decide (x = "list") && decide (y = "range") && isGl sc x && isGl sc y && notSt z && notSt v && agE sc ow a z && agE sc ow b v
    | _ => false
  | .dnew, e => match e with
    | .Dict [] [] _ => true
    | _ => false
  | .d1 a b, e => match e with
    | .Dict [some y] [z] _ => agE sc ow a y && agE sc ow b z
    | _ => false
  | .dget o a, e => match e with
    | .Call (.Attribute x f ap) [y] [] cp => decide (f = "get") && notCall x && notSt y && (ap.endLine == cp.line) && agE sc ow o x && agE sc ow a y
    | _ => false
  | .dgetd o a b, e => match e with
    | .Call (.Attribute x f ap) [y, z] [] cp => decide (f = "get") && notCall x && notSt y && notSt z && (ap.endLine == cp.line) && agE sc ow o x && agE sc ow a y && agE sc ow b z
    | _ => false
  | .dpop o a, e => match e with
    | .Call (.Attribute x f ap) [y] [] cp => decide (f = "pop") && notCall x && notSt y && (ap.endLine == cp.line) && agE sc ow o x && agE sc ow a y
    | _ => false
  | .dcomp t it ifs a b, e => match e with
    | .DictComp x y [⟨tg, iter, cs, k⟩] scope _ => decide (k = 0) && blkC N sc scope (ownOf N t.slots) && agI sc ow it tg iter && agT (inSc scope sc) (fun x => scope.names.lookup x == some .cell) false t tg &&
        decide (cs.length ≤ 1) && agEs (inSc scope sc) (fun x => scope.names.lookup x == some .cell) ifs cs && agE (inSc scope sc) (fun x => scope.names.lookup x == some .cell) a x && agE (inSc scope sc) (fun x => scope.names.lookup x == some .cell) b y
    | _ => false
  | .its srt o, e => match e with
    | .Call (.Name x _) [.Call (.Attribute y f ap) [] [] cp] [] _ => decide (x = if srt = true then "sorted" else "list") && decide (f = "items") && isGl sc x && notCall y && (ap.endLine == cp.line) && agE sc ow o y
    | _ => false
  | .lrg a, e => match e with
    | .Call (.Name x _) [.Call (.Name y _) [z] [] _] [] _ => decide (x = "list") && decide (y = "range") && isGl sc x && isGl sc y && notSt z && agE sc ow a z
    | _ => false
def agEs (sc : Scope) (ow : Str → Bool) : Exs → List Expr → Bool
  | .nil, xs => match xs with
    | [] => true
    | _ => false
  | .cons e es, xs => match xs with
    | x :: xs => notSt x && agE sc ow e x && agEs sc ow es xs
    | [] => false
def agO (sc : Scope) (ow : Str → Bool) : Exs → Option Expr → Bool
  | .nil, x => match x with
    | none => true
    | _ => false
  | .cons e es, x => match es with
    | .nil => match x with
      | some x => agE sc ow e x
      | none => false
    | _ => false
def agI (sc : Scope) (ow : Str → Bool) : Itx → Expr → Expr → Bool
  | .seq a, _, e => notSet e && agE sc ow a e
  | .rng a, _, e => match e with
    | .Call (.Name x _) [y] [] _ => decide (x = "range") && isGl sc x && notSt y && agE sc ow a y
    | _ => false
  | .rng2 a b, _, e => match e with
    | .Call (.Name x _) [y, z] [] _ => decide (x = "range") && isGl sc x && notSt y && notSt z && agE sc ow a y && agE sc ow b z
    | _ => false
  | .enm a, tg, e => (match tg with | .Tuple _ _ _ => true | _ => false) && (match e with
    | .Call (.Name x _) [y] [] _ => decide (x = "enumerate") && isGl sc x && notSt y && agE sc ow a y
    | _ => false)
  | .zip a b, tg, e => (match tg with | .Tuple _ _ _ => true | _ => false) && (match e with
    | .Call (.Name x _) [y, z] [] _ => decide (x = "zip") && isGl sc x && notSt y && notSt z && agE sc ow a y && agE sc ow b z
    | _ => false)
  | .itm a, tg, e => (match tg with | .Tuple _ _ _ => true | _ => false) && (match e with
    | .Call (.Attribute x f ap) [] [] cp => decide (f = "items") && notCall x && (ap.endLine == cp.line) && agE sc ow a x
    | _ => false)
/-- targets; big: o[i] too -/
def agT (sc : Scope) (ow : Str → Bool) (big : Bool) : Tg → Expr → Bool
  | .nm i, e => match e with
    | .Name x _ => decide (N[i]? = some x) && isLoc sc ow x
    | _ => false
  | .tp ts, e => match e with
    | .Tuple xs _ _ => agTs sc ow big ts xs
    | _ => false
  | .sub o i, e => match e with
    | .Subscript x y _ => big && notSl y && agE sc ow o x && agE sc ow i y
    | _ => false
def agTs (sc : Scope) (ow : Str → Bool) (big : Bool) : Tgs → List Expr → Bool
  | .nil, xs => match xs with
    | [] => true
    | _ => false
  | .cons t ts, xs => match xs with
    | x :: xs => notSt x && agT sc ow big t x && agTs sc ow big ts xs
    | [] => false
end
/-- a statement that stores a comprehension in a plain name of the same row -/
def swB (sc : Scope) (x : Str) (px : Pos) : Expr → Bool
  | .ListComp _ _ s p => sc.names.lookup x == some .local && px.line == p.line && !(s.names.any fun (n, k) => n == x && (k == .local || k == .cell))
  | .DictComp _ _ _ s p => sc.names.lookup x == some .local && px.line == p.line && !(s.names.any fun (n, k) => n == x && (k == .local || k == .cell))
  | _ => false
/-- names stored from the right; none: not covered -/
def swO (sc : Scope) (ts vs : List Expr) : Option (Option (List Str)) :=
  if (!(ts.length == 2 || ts.length == 3) || vs.length != ts.length) = true then some none else
  if (vs.any fun | .Starred .. => true | _ => false) = true then some none else
  let line := (ts.head?.map (·.pos.line)).getD 0
  let names := ts.filterMap fun
    | .Name id pos => if sc.names.lookup id == some .local && pos.line == line then some id else none
    | _ => none
  if (names.length != ts.length || names.eraseDups.length != names.length) = true then some none else
  if vs.all (foldedForSure 8) = true then some none else
  if vs.all (constantsAlone 8) = true then none else some (some names)
def plainVal : Expr → Bool
  | .ListComp _ _ _ _ => false
  | .SetComp _ _ _ _ => false
  | .DictComp _ _ _ _ _ => false
  | _ => true
def isTupE : Expr → Bool
  | .Tuple _ _ _ => true
  | _ => false
def isLoc0 (sc : Scope) (x : Str) : Bool := sc.names.lookup x == some .local
/-- a, b = .. -/
def agP (sc : Scope) (ts : Tgs) (ys xs : List Expr) : Bool := match swO sc ys xs with
  | none => false
  | some none => decide (xs.length ≤ 1000)
  | some (some _) => match ys with
    | [.Name x _, .Name y _] => (match ts with
      | .cons (.nm i) (.cons (.nm j) .nil) => decide (i ≠ j) && isLoc0 sc x && isLoc0 sc y && decide (swO sc ys xs = some (some [x, y]))
      | _ => false)
    | [.Name x _, .Name y _, .Name z _] => (match ts with
      | .cons (.nm i) (.cons (.nm j) (.cons (.nm l) .nil)) => decide (i ≠ j) && decide (i ≠ l) && decide (j ≠ l) && isLoc0 sc x && isLoc0 sc y && isLoc0 sc z && decide (swO sc ys xs = some (some [x, y, z]))
      | _ => false)
    | _ => false
mutual
def agS (sc : Scope) (ow : Str → Bool) : Sx → Stmt → Bool
  | .asg t e, s => match s with
    | .Assign [.Name x p] v _ => (match v with | .ListComp _ _ _ _ => true | .DictComp _ _ _ _ _ => true | v => plainVal v) && agT nm N sc ow true t (.Name x p) && agE nm N sc ow e v
    | .Assign [.Subscript x y p] v _ => agT nm N sc ow true t (.Subscript x y p) && agE nm N sc ow e v
    | .Assign [.Tuple xs k p] v _ => !(isTupE v) && agT nm N sc ow true t (.Tuple xs k p) && agE nm N sc ow e v
    | _ => false
  | .par ts es, s => match s with
    | .Assign [.Tuple ys _ _] (.Tuple xs _ _) _ => agTs nm N sc ow true ts ys && agEs nm N sc ow es xs && decide (ys.length = xs.length) && agP sc ts ys xs
    | _ => false
  | .app o e, s => match s with
    | .Expr (.Call (.Attribute x f ap) [y] [] cp) _ => decide (f = "append") && notCall x && notSt y && (ap.endLine == cp.line) && agE nm N sc ow o x && agE nm N sc ow e y
    | _ => false
  | .ifs t a b, s => match s with
    | .If c x y _ => agE nm N sc ow t c && agSs sc ow a x && agSs sc ow b y
    | _ => false
  | .for_ t it b _, s => match s with
    | .For tg iter x [] _ => (match iter with | .Set _ _ _ => false | _ => true) && agI nm N sc ow it tg iter && agT nm N sc ow false t tg && agSs sc ow b x
    | _ => false
  | .whl _ t b _, s => match s with
    | .While c x [] _ => agE nm N sc ow t c && agSs sc ow b x
    | _ => false
  | .ret e, s => match s with
    | .Return (some x) _ => agE nm N sc ow e x
    | _ => false
  | .retO e, s => match s with
    | .Return (some x) _ => agE nm N sc ow e x
    | _ => false
  | .ret0, s => match s with
    | .Return none _ => true
    | _ => false
  | .exp e, s => match s with
    | .Expr x _ => plainVal x && agE nm N sc ow e x
    | _ => false
  | .brk, s => match s with
    | .Break _ => true
    | _ => false
  | .cnt, s => match s with
    | .Continue _ => true
    | _ => false
  | .pas, s => match s with
    | .Pass _ => true
    | _ => false
def agSs (sc : Scope) (ow : Str → Bool) : Ss → List Stmt → Bool
  | .nil, xs => match xs with
    | [] => true
    | _ => false
  | .cons s ss, xs => match xs with
    | x :: xs => agS sc ow s x && agSs sc ow ss xs
    | [] => false
end
end
end PV

/-! PV10: what the terms' readings are; small parts of the soundness. -/
namespace PV
open PySem PySem.Spec PyProof.Rows L2

theorem isVis_ok {sc : Scope} {x : Str} (h : isVis sc x = true) : Vis sc x := by
  unfold isVis at h
  split at h
  · exact .inl (by assumption)
  · exact .inr (.inl (by assumption))
  · exact .inr (.inr (by assumption))
  · cases h
theorem isGl_ok {X : Cx} {x : Str} (h : isGl X.env.scope x = true) : Gl X x := by
  unfold isGl at h
  split at h
  · show X.env.scope.names.lookup x = _
    assumption
  · cases h
theorem isLoc_ok {X : Cx} {ow : Str → Bool} {x : Str} (how : ∀ x, ow x = true → X.fn x = true) (h : isLoc X.env.scope ow x = true) : Loc X.env.scope x ∧ (X.fn x = true ∨ X.env.scope.names.lookup x = some .local) := by
  unfold isLoc at h
  split at h
  · rename_i e
    exact ⟨.inl e, .inr e⟩
  · rename_i e
    exact ⟨.inr e, .inl (how x h)⟩
  · cases h
theorem plainNm_ok {x : Str} (h : plainNm x = true) : x ≠ "__name__" ∧ (x == ("__debug__" : Str)) = false ∧ (x == ("__classdict__" : Str)) = false := by
  unfold plainNm at h
  simp only [Bool.and_eq_true, Bool.not_eq_true', decide_eq_true_eq] at h
  exact ⟨h.1.1, h.1.2, h.2⟩
theorem star_of {e : Expr} (h : notSt e = true) (es : List Expr) (env : Env) : starEach (e :: es) env = (false, eval e env) :: starEach es env := by
  cases e <;> first | rfl | cases h
theorem plainIx_of {b : Expr} (h : notSl b = true) : PlainIx b := by
  intro o i
  cases b <;> first | rfl | cases h
theorem folded_of {e : Expr} (h : notSet e = true) (env : Env) (x : Value) : foldedSetIterable e env x = pure x := by
  cases e <;> first | rfl | cases h
def allSt : List Expr → Bool
  | [] => true
  | x :: xs => notSt x && allSt xs
theorem back_of : ∀ {es : List Expr} (pos : Pos) (env : Env), allSt es = true → (backTo pos (starEach es env)).any (·.1) = false
  | [], _, _, _ => rfl
  | e :: es, pos, env, h => by
    simp only [allSt, Bool.and_eq_true] at h
    rw [star_of h.1]
    have ih := back_of (es := es) pos env h.2
    unfold backTo at ih ⊢
    rw [List.map_cons, List.any_cons, ih]
    rfl
section
variable {X : Cx}
theorem PE_imp {e : Expr} {t t' : TE} (h : PE X e t) (i : ∀ σ H Q, t' σ H Q → t σ H Q) : PE X e t' := ⟨fun pins s σ H Q I q => h.run pins s σ H Q I (i _ _ _ q)⟩
theorem PT_imp {e : Expr} {t t' : TT} (h : PT X e t) (i : ∀ σ H Q, t' σ H Q → t σ H Q) : PT X e t' := ⟨fun pins s σ H Q I q => h.run pins s σ H Q I (i _ _ _ q)⟩
theorem PW_imp {e : Expr} {t t' : TT} (h : PW X e t) (i : ∀ σ H Q, t' σ H Q → t σ H Q) : PW X e t' := ⟨fun wh pins s σ H Q I q => h.run wh pins s σ H Q I (i _ _ _ q)⟩
theorem PA_imp {e : List Expr} {t t' : TA} (h : PA X e t) (i : ∀ σ H Q, t' σ H Q → t σ H Q) : PA X e t' := ⟨fun pos pins s σ H Q I q => h.run pos pins s σ H Q I (i _ _ _ q)⟩
theorem PI_imp {tg e : Expr} {t t' : TI} (h : PI X tg e t) (i : ∀ σ H Q, t' σ H Q → t σ H Q) : PI X tg e t' := ⟨fun pins s σ H Q I q => h.run pins s σ H Q I (i _ _ _ q)⟩
theorem PG_imp {e : Expr} {t t' : TG} (h : PG X e t) (i : ∀ v σ H Q, t' v σ H Q → t v σ H Q) : PG X e t' := ⟨fun pins s σ H v u Q I r q => h.run pins s σ H v u Q I r (i _ _ _ _ q)⟩
theorem PGs_imp {e : List Expr} {t t' : TGs} (h : PGs X e t) (i : ∀ v σ H Q, t' v σ H Q → t v σ H Q) : PGs X e t' := ⟨fun pins s σ H v u Q I r q => h.run pins s σ H v u Q I r (i _ _ _ _ q)⟩
theorem PS_imp {e : Stmt} {t t' : TS} (h : PS X e t) (i : ∀ D σ H, t' D σ H → t D σ H) : PS X e t' := ⟨fun pins s σ H D I q => h.run pins s σ H D I (i _ _ _ q)⟩
theorem PSs_imp {e : List Stmt} {t t' : TS} (h : PSs X e t) (i : ∀ D σ H, t' D σ H → t D σ H) : PSs X e t' := ⟨fun pins s σ H D I q => h.run pins s σ H D I (i _ _ _ q)⟩
end

/-! ### readings -/
def KtA (K : PySem.W.Frag) (W : Wo) (S : Sto) (as : List A) (Q : List V → Hp → Prop) : Prop := ∀ W' vs H', Le W W' → Wd K W' H' S → RaA K W' vs as → Q vs H'
def KtB (K : PySem.W.Frag) (W : Wo) (S : Sto) (k : Bool) (Q : Bool → Hp → Prop) : Prop := ∀ W' H', Le W W' → Wd K W' H' S → Q k H'
/-- a new list, told of nowhere -/
def KtN (K : PySem.W.Frag) (W : Wo) (S : Sto) (ds : List PyData) (Q : VK) : Prop := ∀ W' p vs H', Le W W' → Wd K W' H' S → W'.F p = none → p ∉ W'.ρ → W'.G p = none → H' p = some (.lst vs) → RpA K W'.F vs ds → Q (.ref p) H'
def KtG (K : PySem.W.Frag) (W : Wo) (S : Sto) (env : En) (sl : List Nat) (σ : L2.St) (Q : L2.St → Hp → Prop) : Prop := ∀ W' σ' H', Le W W' → Wd K W' H' S → Re K W' σ' env → wipe σ' sl = wipe σ sl → Q σ' H'
/-- later, but for what is watched -/
structure Lx (W W' : Wo) : Prop where
  F : LeF W.F W'.F
  ρ : ∃ m, W'.ρ = W.ρ ++ m
  L : LeF W.L W'.L
theorem Le.x {W W' : Wo} (h : Le W W') : Lx W W' := ⟨h.F, h.ρ, h.L⟩
theorem Lx.trans {W1 W2 W3 : Wo} (a : Lx W1 W2) (b : Lx W2 W3) : Lx W1 W3 := by
  obtain ⟨m, e⟩ := a.ρ
  obtain ⟨m', e'⟩ := b.ρ
  exact ⟨fun x u q => b.F x u (a.F x u q), ⟨m ++ m', by rw [e', e, List.append_assoc]⟩, fun x u q => b.L x u (a.L x u q)⟩
theorem Lx.g {W W' : Wo} (G G' : Hp) (h : Lx W W') : Lx ⟨W.F, W.ρ, G, W.L⟩ ⟨W'.F, W'.ρ, G', W'.L⟩ := ⟨h.F, h.ρ, h.L⟩
/-- what is walked gives these data, as long as what is watched stays -/
structure Wk (K : PySem.W.Frag) (W0 : Wo) (L : Sto → Bool) (J : It) (ia : PyData → A) (xs : List PyData) : Prop where
  sz : xs.length ≤ 16777216
  go : ∀ (W : Wo) (H : Hp) (S : Sto) (i : Nat), Lx W0 W → Wd K W H S → L S = true → i < xs.length → J.go i H
  stop : ∀ (W : Wo) (H : Hp) (S : Sto), Lx W0 W → Wd K W H S → L S = true → J.stop xs.length H
  yld : ∀ (W : Wo) (H H' : Hp) (S : Sto) (i : Nat) (x : V), Lx W0 W → Wd K W H S → L S = true → i < xs.length → J.yld i H x H' → ∃ W2 d, Le W W2 ∧ Wd K W2 H' S ∧ xs[i]? = some d ∧ Ra K W2 x (ia d)
theorem ckB_self (w : Option Nat) (S : Sto) : ckB w S S = true := by
  cases w with
  | none => rfl
  | some k => simp [ckB]
theorem ckB_some {k : Nat} {S S' : Sto} (h : ckB (some k) S S' = true) : deref S' (.obj k) = deref S (.obj k) := by simpa [ckB] using h
theorem deref_lst {k : Nat} {S : Sto} {xs : List PyData} (h : deref S (.obj k) = some (.list xs)) : ∃ fz, S[k]? = some (.lst xs fz) := by
  unfold deref at h
  simp only at h
  split at h
  · rename_i ys fz e
    cases h
    exact ⟨fz, e⟩
  · cases h
  · cases h
theorem watC_some {β : Type} {w : Option Nat} {S0 S S' : Sto} {f : PyData → Sto → Option (Option β × Sto)} {x : PyData} {o : Option β} (h : watC w S0 f x S = some (o, S')) : f x S = some (o, S') ∧ ckB w S0 S' = true := by
  unfold watC at h
  split at h
  · cases h
  · rename_i o1 S1 e
    split at h
    · rename_i c
      cases h
      exact ⟨e, c⟩
    · cases h
/-- a new dict, told of nowhere -/
def KtND (K : PySem.W.Frag) (W : Wo) (S : Sto) (kvs : List (PyData × PyData)) (Q : VK) : Prop := ∀ W' p vs H', Le W W' → Wd K W' H' S → W'.F p = none → p ∉ W'.ρ → W'.G p = none → H' p = some (.dK vs) → RpK K W'.F vs kvs → Q (.ref p) H'
/-- a dict that is walked is to be let go behind -/
def UnL (nf : Addr → Prop) (W W' : Wo) (w : Option Nat) (S : Sto) : Prop := ∀ k kvs fz lk, w = some k → S[k]? = some (.dic kvs fz lk) → ∃ a od vs, W'.ρ[k]? = some a ∧ W'.L a = some (.frz od (.dK vs)) ∧ nf a ∧ W.L a = none
section
variable (K : PySem.W.Frag) (Φ : List Fs) (Γ : List PyData)
def rdE (e : Ex) : TE := fun σ H Q => ∃ W env S a S', Wd K W H S ∧ Re K W σ env ∧ ev Φ Γ e env S = some (a, S') ∧ Kt K W S' a Q
def rdAnd (es : Exs) : TE := fun σ H Q => ∃ W env S a S', Wd K W H S ∧ Re K W σ env ∧ evAnd Φ Γ es env S = some (a, S') ∧ Kt K W S' a Q
def rdOr (es : Exs) : TE := fun σ H Q => ∃ W env S a S', Wd K W H S ∧ Re K W σ env ∧ evOr Φ Γ es env S = some (a, S') ∧ Kt K W S' a Q
def rdN (e : Ex) : TE := fun σ H Q => ∃ W env S ds S', Wd K W H S ∧ Re K W σ env ∧ ev Φ Γ e env S = some (.d (.list ds), S') ∧ KtN K W S' ds Q
def rdT (e : Ex) : TT := fun σ H Q => ∃ W env S a S' k, Wd K W H S ∧ Re K W σ env ∧ ev Φ Γ e env S = some (a, S') ∧ tru S' a = some k ∧ KtB K W S' k Q
def rdTAnd (es : Exs) : TT := fun σ H Q => ∃ W env S a S' k, Wd K W H S ∧ Re K W σ env ∧ evAnd Φ Γ es env S = some (a, S') ∧ tru S' a = some k ∧ KtB K W S' k Q
def rdTOr (es : Exs) : TT := fun σ H Q => ∃ W env S a S' k, Wd K W H S ∧ Re K W σ env ∧ evOr Φ Γ es env S = some (a, S') ∧ tru S' a = some k ∧ KtB K W S' k Q
def rdTs (es : Exs) : TT := fun σ H Q => ∃ W env S k S', Wd K W H S ∧ Re K W σ env ∧ evTs Φ Γ es env S = some (k, S') ∧ KtB K W S' k Q
def rdA (es : Exs) : TA := fun σ H Q => ∃ W env S as S', Wd K W H S ∧ Re K W σ env ∧ evs Φ Γ es env S = some (as, S') ∧ KtA K W S' as Q
def rdO (es : Exs) : TO := fun σ H Q => ∃ W env S o S', Wd K W H S ∧ Re K W σ env ∧ evOpt Φ Γ es env S = some (o, S') ∧ ∀ W' H', Le W W' → Wd K W' H' S' → Q o H'
def rdND (e : Ex) : TE := fun σ H Q => ∃ W env S kvs S', Wd K W H S ∧ Re K W σ env ∧ ev Φ Γ e env S = some (.d (.dict kvs), S') ∧ KtND K W S' kvs Q
def rdI (nf : Addr → Prop) (it : Itx) : TI := fun σ H R => ∃ W env S xs w S', Wd K W H S ∧ Re K W σ env ∧ evI Φ Γ it env S = some (xs, w, S') ∧ ∀ W' J H', Le W W' → Wd K W' H' S' → Wk K W' (ckB w S') J (itA it) xs → UnL nf W W' w S' → R J H'
def rdG (t : Tg) : TG := fun v σ H Q => ∃ W a env S env' S', Wd K W H S ∧ Re K W σ env ∧ Ra K W v a ∧ bnd Φ Γ t a env S = some (env', S') ∧ KtG K W S' env' t.slots σ Q
def rdGs (ts : Tgs) : TGs := fun vs σ H Q => ∃ W as env S env' S', Wd K W H S ∧ Re K W σ env ∧ RaA K W vs as ∧ bnds Φ Γ ts as env S = some (env', S') ∧ KtG K W S' env' ts.slots σ Q
end
/-- what a def of n parameters promises -/
def spF (K : PySem.W.Frag) (n : Nat) (m : Fs) : Sp := fun vs H Q _ => vs.length = n ∧ ∃ W S as r S', Wd K W H S ∧ RaA K W vs as ∧ m as S = some (r, S') ∧ Kt K W S' r Q
def bltNames : List Str := ["len", "sum", "min", "max", "any", "all", "sorted", "list", "tuple", "int", "abs", "isinstance", "range", "enumerate", "zip", "bool", "str", "dict", "set"]
/-- where one stands -/
structure At (nm : Nm) (Φ : List Fs) (Γ : List PyData) (lv : Nat) (X : Cx) : Prop where
  calm : X.calm = true
  nd : X.N.Nodup
  room : Room lv X.A
  fns : ∀ (i : Nat) (x : Str) (n : Nat), nm.fn[i]? = some (x, n) → ∃ m fA fd ps, Φ[i]? = some m ∧ X.mg x = some (.ref fA) ∧ PySem.W.keepIn X.K (.ref fA) = true ∧ FnOk X.prog X.w X.K X.mg X.base CX0 lv fA fd ps (spF X.K n m) ∧ Binds X.K fd ps []
  blt : ∀ x ∈ bltNames, X.mg x = none
  gls : ∀ (i : Nat) (x : Str), nm.gl[i]? = some x → ∃ u v d, Γ[i]? = some d ∧ X.mg x = some u ∧ RelV v u ∧ ∀ F, Rp X.K F v d
section
variable {nm : Nm} {Φ : List Fs} {Γ : List PyData} {lv : Nat} {X : Cx}
theorem At.hu (h : At nm Φ Γ lv X) : X.A.units + 65 < cLine := by
  have := h.room.un
  omega
theorem At.blk (h : At nm Φ Γ lv X) (s : Shared) (H : Hp) (scope : Scope) (cenv : Env) (fp : List Addr) : At nm Φ Γ lv (X.blk s H scope cenv fp) := ⟨h.calm, h.nd, h.room, h.fns, h.blt, h.gls⟩
end

/-! ### slots forgotten -/
theorem wipe_get (σ : L2.St) : ∀ (l : List Nat) (i : Nat), (wipe σ l)[i]? = if i ∈ l then (σ[i]?).map (fun _ => none) else σ[i]?
  | [], i => by simp [wipe]
  | j :: l, i => by
    unfold wipe
    by_cases h : i = j
    · subst h
      by_cases hl : i < σ.length
      · rw [List.getElem?_set_self (by rw [wipe_length]; exact hl), List.getElem?_eq_getElem hl]
        simp
      · rw [List.getElem?_eq_none (by rw [List.length_set, wipe_length]; omega), List.getElem?_eq_none (by omega)]
        simp
    · rw [List.getElem?_set_ne (Ne.symm h), wipe_get σ l i]
      simp [h]
theorem wipe_app (σ : L2.St) (l m : List Nat) : wipe σ (l ++ m) = wipe (wipe σ l) m := by
  apply List.ext_getElem?
  intro i
  rw [wipe_get, wipe_get, wipe_get]
  by_cases h1 : i ∈ l <;> by_cases h2 : i ∈ m <;> simp [h1, h2, Function.comp_def]
theorem wipe_comm (σ : L2.St) (l m : List Nat) : wipe (wipe σ l) m = wipe (wipe σ m) l := by
  apply List.ext_getElem?
  intro i
  rw [wipe_get, wipe_get, wipe_get, wipe_get]
  by_cases h1 : i ∈ l <;> by_cases h2 : i ∈ m <;> simp [h1, h2, Function.comp_def]
theorem wipe_idem (σ : L2.St) (l : List Nat) : wipe (wipe σ l) l = wipe σ l := by
  apply List.ext_getElem?
  intro i
  rw [wipe_get, wipe_get]
  by_cases h1 : i ∈ l <;> simp [h1, Function.comp_def]
theorem wipe_set (σ : L2.St) (i : Nat) (v : Option V) : wipe (σ.set i v) [i] = wipe σ [i] := by
  show (σ.set i v).set i none = σ.set i none
  rw [List.set_set]
end PV

/-! PV11: the soundness of expressions. -/
namespace PV
open PySem PySem.Spec PyProof.Rows L2

/-! ### walks -/
section
variable {K : PySem.W.Frag} {W : Wo} {a b : Addr} {vs ws : List V} {ds es : List PyData} {L : Sto → Bool}
theorem szu {n : Nat} (h : n ≤ sizeLine) : n ≤ 16777216 := by
  rw [sizeLine_eq] at h
  exact h
theorem wk_list (e : W.F a = some (.lst vs)) (r : RpA K W.F vs ds) (h : vs.length ≤ sizeLine) : Wk K W L (Itl K a) A.d ds := by
  have at_ : ∀ {W' H S}, Lx W W' → Wd K W' H S → SqL K H a vs := fun le wd => .inl (.inl (wd.sub.ex (le.F _ _ e) rfl))
  refine ⟨by rw [← r.length]; exact szu h, fun W' H S i le wd _ hi => ?_, fun W' H S le wd _ => ⟨vs, at_ le wd, by rw [r.length]; exact Nat.le_refl _⟩, fun W' H H' S i x le wd _ hi y => ?_⟩
  · have hv : i < vs.length := by rw [r.length]; exact hi
    exact ⟨vs, vs[i], at_ le wd, List.getElem?_eq_getElem hv⟩
  · obtain ⟨rfl, y⟩ := y
    obtain ⟨v, h1, h2⟩ := r.get (List.getElem?_eq_getElem hi)
    have := y vs (at_ le wd)
    rw [h1] at this
    cases this
    exact ⟨W', _, .refl _, wd, List.getElem?_eq_getElem hi, h2.le le.F⟩
theorem wk_own {k : Nat} {S0 : Sto} {fz : Bool} (e : W.ρ[k]? = some a) (e0 : S0[k]? = some (.lst ds fz)) (hz : ds.length ≤ 16777216) : Wk K W (ckB (some k) S0) (Itl K a) A.d ds := by
  have at_ : ∀ {W' H S}, Lx W W' → Wd K W' H S → ckB (some k) S0 S = true → ∃ vs, SqL K H a vs ∧ RpA K W'.F vs ds := fun {W' H S} le wd c => by
    obtain ⟨m, em⟩ := le.ρ
    have hk : k < W.ρ.length := by
      rcases Nat.lt_or_ge k W.ρ.length with h | h
      · exact h
      · rw [List.getElem?_eq_none h] at e
        cases e
    have e' : W'.ρ[k]? = some a := by rw [em, List.getElem?_append_left hk, e]
    obtain ⟨fz', e1⟩ := deref_lst ((ckB_some c).trans (show deref S0 (.obj k) = some (.list ds) by simp [deref, e0]))
    obtain ⟨vs, h1, h2, _⟩ := wd.ob k a _ e' e1
    exact ⟨vs, .inl (.inl h1), h2⟩
  refine ⟨hz, fun W' H S i le wd c hi => ?_, fun W' H S le wd c => ?_, fun W' H H' S i x le wd c hi y => ?_⟩
  · obtain ⟨vs, g, r⟩ := at_ le wd c
    have hv : i < vs.length := by rw [r.length]; exact hi
    exact ⟨vs, vs[i], g, List.getElem?_eq_getElem hv⟩
  · obtain ⟨vs, g, r⟩ := at_ le wd c
    exact ⟨vs, g, by rw [r.length]; exact Nat.le_refl _⟩
  · obtain ⟨vs, g, r⟩ := at_ le wd c
    obtain ⟨rfl, y⟩ := y
    obtain ⟨v, h1, h2⟩ := r.get (List.getElem?_eq_getElem hi)
    have := y vs g
    rw [h1] at this
    cases this
    exact ⟨W', _, .refl _, wd, List.getElem?_eq_getElem hi, h2⟩
theorem wk_tup (e : SqT K W.F a vs) (r : RpA K W.F vs ds) (h : vs.length ≤ sizeLine) : Wk K W L (Itt K a) A.d ds := by
  have at_ : ∀ {W' H S}, Lx W W' → Wd K W' H S → SqT K H a vs := fun le wd => wd.sub.seqT (le.F.seqT e)
  refine ⟨by rw [← r.length]; exact szu h, fun W' H S i le wd _ hi => ?_, fun W' H S le wd _ => ⟨vs, at_ le wd, by rw [r.length]; exact Nat.le_refl _⟩, fun W' H H' S i x le wd _ hi y => ?_⟩
  · have hv : i < vs.length := by rw [r.length]; exact hi
    exact ⟨vs, vs[i], at_ le wd, List.getElem?_eq_getElem hv⟩
  · obtain ⟨rfl, y⟩ := y
    obtain ⟨v, h1, h2⟩ := r.get (List.getElem?_eq_getElem hi)
    have := y vs (at_ le wd)
    rw [h1] at this
    cases this
    exact ⟨W', _, .refl _, wd, List.getElem?_eq_getElem hi, h2.le le.F⟩
theorem wk_str {z : Str} (h : z.length ≤ 16777216) : Wk K W L (Its z) A.d (z.cps.toList.map fun c => .str ⟨#[c]⟩) := by
  have hl : z.length = z.cps.size := rfl
  refine ⟨by simp only [List.length_map, Array.length_toList]; exact h, fun W' H S i le wd _ hi => ?_, fun W' H S le wd _ => ?_, fun W' H H' S i x le wd _ hi y => ?_⟩
  · show i < z.cps.size
    simpa using hi
  · show z.cps.size ≤ _
    simp
  · obtain ⟨rfl, c, h1, rfl⟩ := y
    refine ⟨W', .str ⟨#[c]⟩, .refl _, wd, ?_, .str _⟩
    rw [List.getElem?_map, Array.getElem?_toList, h1]
    rfl
theorem wk_rng {lo : Int} {n : Nat} (h : n ≤ 16777216) : Wk K W L (Itr lo n) A.d (rngD lo n) := by
  have hl : (rngD lo n).length = n := by simp [rngD]
  refine ⟨by rw [hl]; exact h, fun W' H S i le wd _ hi => ?_, fun W' H S le wd _ => ?_, fun W' H H' S i x le wd _ hi y => ?_⟩
  · rw [hl] at hi
    exact hi
  · rw [hl]
    exact Nat.le_refl n
  · obtain ⟨rfl, rfl⟩ := y
    rw [hl] at hi
    refine ⟨W', .int (lo + (i : Nat)), .refl _, wd, ?_, .int _⟩
    unfold rngD
    rw [List.getElem?_map, List.getElem?_range hi]
    rfl
theorem yld_pair {W' : Wo} {H : Hp} {S : Sto} {T : Addr} {v w : V} {d e : PyData} (wd : Wd K W' H S) (n : H T = none) (r1 : Rp K W'.F v d) (r2 : Rp K W'.F w e) :
    ∃ W2, Le W' W2 ∧ Wd K W2 (upd H T (.tup [v, w])) S ∧ Ra K W2 (.ref T) (prA (.tuple [d, e])) := by
  have nF := wd.freeF n
  exact ⟨_, .upd nF, wd.pure n, ⟨T, _, _, rfl, .inl (.inl upd_same), r1.le (leF_upd nF), r2.le (leF_upd nF)⟩⟩
theorem enmD_get (ds : List PyData) (i : Nat) (h : i < ds.length) : (enmD ds)[i]? = some (.tuple [.int (i : Nat), ds[i]]) := by
  unfold enmD
  rw [List.getElem?_zipWith, List.getElem?_range h, List.getElem?_eq_getElem h]
theorem enmD_len (ds : List PyData) : (enmD ds).length = ds.length := by simp [enmD]
theorem wk_enmL (e : W.F a = some (.lst vs)) (r : RpA K W.F vs ds) (h : vs.length ≤ sizeLine) : Wk K W L (Ite K a) prA (enmD ds) := by
  have at_ : ∀ {W' H S}, Lx W W' → Wd K W' H S → SqL K H a vs := fun le wd => .inl (.inl (wd.sub.ex (le.F _ _ e) rfl))
  refine ⟨by rw [enmD_len, ← r.length]; exact szu h, fun W' H S i le wd _ hi => ?_, fun W' H S le wd _ => ⟨vs, at_ le wd, by rw [enmD_len, r.length]; exact Nat.le_refl _⟩, fun W' H H' S i x le wd _ hi y => ?_⟩
  · rw [enmD_len] at hi
    have hv : i < vs.length := by rw [r.length]; exact hi
    exact ⟨vs, vs[i], at_ le wd, List.getElem?_eq_getElem hv⟩
  · rw [enmD_len] at hi
    obtain ⟨T, x, rfl, n, rfl, y⟩ := y
    obtain ⟨v, h1, h2⟩ := r.get (List.getElem?_eq_getElem hi)
    have := y vs (at_ le wd)
    rw [h1] at this
    cases this
    obtain ⟨W2, l2, wd2, r2⟩ := yld_pair wd n (.int (i : Nat)) (h2.le le.F)
    exact ⟨W2, _, l2, wd2, enmD_get ds i hi, r2⟩
theorem wk_enmT (e : SqT K W.F a vs) (r : RpA K W.F vs ds) (h : vs.length ≤ sizeLine) : Wk K W L (IteT K a) prA (enmD ds) := by
  have at_ : ∀ {W' H S}, Lx W W' → Wd K W' H S → SqT K H a vs := fun le wd => wd.sub.seqT (le.F.seqT e)
  refine ⟨by rw [enmD_len, ← r.length]; exact szu h, fun W' H S i le wd _ hi => ?_, fun W' H S le wd _ => ⟨vs, at_ le wd, by rw [enmD_len, r.length]⟩, fun W' H H' S i x le wd _ hi y => ?_⟩
  · rw [enmD_len] at hi
    have hv : i < vs.length := by rw [r.length]; exact hi
    exact ⟨vs, vs[i], at_ le wd, List.getElem?_eq_getElem hv⟩
  · rw [enmD_len] at hi
    obtain ⟨T, x, rfl, n, rfl, y⟩ := y
    obtain ⟨v, h1, h2⟩ := r.get (List.getElem?_eq_getElem hi)
    have := y vs (at_ le wd)
    rw [h1] at this
    cases this
    obtain ⟨W2, l2, wd2, r2⟩ := yld_pair wd n (.int (i : Nat)) (h2.le le.F)
    exact ⟨W2, _, l2, wd2, enmD_get ds i hi, r2⟩
theorem zipD_len (ds es : List PyData) : (zipD ds es).length = min ds.length es.length := by simp [zipD]
theorem wk_zipL (e1 : W.F a = some (.lst vs)) (r1 : RpA K W.F vs ds) (e2 : W.F b = some (.lst ws)) (r2 : RpA K W.F ws es) (h : ds.length ≤ 16777216) : Wk K W L (Itz K a b) prA (zipD ds es) := by
  have at1 : ∀ {W' H S}, Lx W W' → Wd K W' H S → SqL K H a vs := fun le wd => .inl (.inl (wd.sub.ex (le.F _ _ e1) rfl))
  have at2 : ∀ {W' H S}, Lx W W' → Wd K W' H S → SqL K H b ws := fun le wd => .inl (.inl (wd.sub.ex (le.F _ _ e2) rfl))
  have l1 := r1.length
  have l2 := r2.length
  refine ⟨by rw [zipD_len]; omega, fun W' H S i le wd _ hi => ?_, fun W' H S le wd _ => ⟨vs, ws, at1 le wd, at2 le wd, by rw [zipD_len]; omega⟩, fun W' H H' S i x le wd _ hi y => ?_⟩
  · rw [zipD_len] at hi
    exact ⟨vs, ws, vs[i]'(by omega), ws[i]'(by omega), at1 le wd, at2 le wd, List.getElem?_eq_getElem _, List.getElem?_eq_getElem _⟩
  · rw [zipD_len] at hi
    obtain ⟨T, x, y', rfl, n, rfl, y1, y2⟩ := y
    have hd : i < ds.length := by omega
    have he : i < es.length := by omega
    obtain ⟨v, g1, g2⟩ := r1.get (List.getElem?_eq_getElem hd)
    obtain ⟨w, g3, g4⟩ := r2.get (List.getElem?_eq_getElem he)
    have q1 := y1 vs (at1 le wd)
    have q2 := y2 ws (at2 le wd)
    rw [g1] at q1
    rw [g3] at q2
    cases q1
    cases q2
    obtain ⟨W2, lw, wd2, rr⟩ := yld_pair wd n (g2.le le.F) (g4.le le.F)
    refine ⟨W2, _, lw, wd2, ?_, rr⟩
    unfold zipD
    rw [List.getElem?_zipWith, List.getElem?_eq_getElem hd, List.getElem?_eq_getElem he]
theorem wk_zipT (e1 : SqT K W.F a vs) (r1 : RpA K W.F vs ds) (e2 : SqT K W.F b ws) (r2 : RpA K W.F ws es) (h : ds.length ≤ 16777216) : Wk K W L (RZ.ItzT K a b) prA (zipD ds es) := by
  have at1 : ∀ {W' H S}, Lx W W' → Wd K W' H S → SqT K H a vs := fun le wd => wd.sub.seqT (le.F.seqT e1)
  have at2 : ∀ {W' H S}, Lx W W' → Wd K W' H S → SqT K H b ws := fun le wd => wd.sub.seqT (le.F.seqT e2)
  have l1 := r1.length
  have l2 := r2.length
  refine ⟨by rw [zipD_len]; omega, fun W' H S i le wd _ hi => ?_, fun W' H S le wd _ => ⟨vs, ws, at1 le wd, at2 le wd, by rw [zipD_len]; omega⟩, fun W' H H' S i x le wd _ hi y => ?_⟩
  · rw [zipD_len] at hi
    exact ⟨vs, ws, vs[i]'(by omega), ws[i]'(by omega), at1 le wd, at2 le wd, List.getElem?_eq_getElem _, List.getElem?_eq_getElem _⟩
  · rw [zipD_len] at hi
    obtain ⟨T, x, y', rfl, n, rfl, y1, y2⟩ := y
    have hd : i < ds.length := by omega
    have he : i < es.length := by omega
    obtain ⟨v, g1, g2⟩ := r1.get (List.getElem?_eq_getElem hd)
    obtain ⟨w, g3, g4⟩ := r2.get (List.getElem?_eq_getElem he)
    have q1 := y1 vs (at1 le wd)
    have q2 := y2 ws (at2 le wd)
    rw [g1] at q1
    rw [g3] at q2
    cases q1
    cases q2
    obtain ⟨W2, lw, wd2, rr⟩ := yld_pair wd n (g2.le le.F) (g4.le le.F)
    refine ⟨W2, _, lw, wd2, ?_, rr⟩
    unfold zipD
    rw [List.getElem?_zipWith, List.getElem?_eq_getElem hd, List.getElem?_eq_getElem he]
end

/-! ### walks of dicts -/
section
variable {K : PySem.W.Frag} {W : Wo} {d : Addr} {o : PySem.Obj} {vs : List (Key × V)} {kvs : List (PyData × PyData)} {L : Sto → Bool}
theorem wk_keys (e : W.L d = some (.frz o (.dK vs))) (r : RpK K W.F vs kvs) (h : vs.length ≤ sizeLine) : Wk K W L (Itk d o vs) A.d (kvs.map (·.1)) := by
  have at_ : ∀ {W' H S}, Lx W W' → Wd K W' H S → H d = some (.frz o (.dK vs)) := fun le wd => (wd.lu _ _ (le.L _ _ e)).1
  have hl : (kvs.map (·.1)).length = vs.length := by rw [List.length_map, r.length]
  refine ⟨by rw [hl]; exact szu h, fun W' H S i le wd _ hi => ⟨at_ le wd, by omega⟩, fun W' H S le wd _ => ⟨at_ le wd, by omega⟩, fun W' H H' S i x le wd _ hi y => ?_⟩
  obtain ⟨rfl, k, v, h1, rfl⟩ := y
  have hk : i < kvs.length := by rw [List.length_map] at hi; exact hi
  obtain ⟨k', v', g1, g2, _⟩ := r.at (List.getElem?_eq_getElem hk)
  rw [h1] at g1
  cases g1
  exact ⟨W', _, .refl _, wd, by rw [List.getElem?_map, List.getElem?_eq_getElem hk]; rfl, rp_kV g2⟩
theorem wk_items (e : W.L d = some (.frz o (.dK vs))) (r : RpK K W.F vs kvs) (h : vs.length ≤ sizeLine) : Wk K W L (Iti d o vs) prA (itmD kvs) := by
  have at_ : ∀ {W' H S}, Lx W W' → Wd K W' H S → H d = some (.frz o (.dK vs)) := fun le wd => (wd.lu _ _ (le.L _ _ e)).1
  have hl : (itmD kvs).length = vs.length := by unfold itmD; rw [List.length_map, r.length]
  refine ⟨by rw [hl]; exact szu h, fun W' H S i le wd _ hi => ⟨at_ le wd, by omega⟩, fun W' H S le wd _ => ⟨at_ le wd, by omega⟩, fun W' H H' S i x le wd _ hi y => ?_⟩
  obtain ⟨T, k, v, h1, rfl, n, rfl⟩ := y
  have hk : i < kvs.length := by rw [hl, r.length] at hi; exact hi
  obtain ⟨k', v', g1, g2, g3⟩ := r.at (List.getElem?_eq_getElem hk)
  rw [h1] at g1
  cases g1
  obtain ⟨W2, l2, wd2, r2⟩ := yld_pair wd n (rp_kV g2) (g3.le le.F)
  exact ⟨W2, _, l2, wd2, by unfold itmD; rw [List.getElem?_map, List.getElem?_eq_getElem hk]; rfl, r2⟩
/-- what is told of a dict that is walked -/
theorem lk_data {S : Sto} {H : Hp} (wd : Wd K W H S) (r : Rp K W.F (.ref d) (.dict kvs)) : ∃ vs, RpK K W.F vs kvs ∧ W.F d = some (.dK vs) ∧ (H d = some (.dK vs) ∨ ∃ o, H d = some (.frz o (.dK vs))) := by
  cases r with
  | dicK q r => exact ⟨_, r, q, (wd.sub _ _ q).imp id fun z => z.2⟩
/-- a locked dict that stays locked is told of -/
theorem Wd.told {S : Sto} {H : Hp} {u : HO} (wd : Wd K W H S) (h : H d = some (.frz o u)) : ∃ W', Le W W' ∧ Wd K W' H S ∧ W'.F = W.F ∧ W'.L d = some (.frz o u) := by
  refine ⟨⟨W.F, W.ρ, W.G, upd W.L d (.frz o u)⟩, ⟨fun _ _ z => z, ⟨[], by simp⟩, rfl, fun a x e => ?_⟩, ⟨wd.sub, wd.len, wd.nd, fun j b x e1 e2 => (wd.ob j b x e1 e2).stay (fun _ _ z => z) rfl fun z => z, wd.gu, fun a x e => ?_⟩, rfl, upd_same⟩
  · show upd W.L d _ a = some x
    by_cases ha : a = d
    · subst ha
      have := (wd.lu _ _ e).1
      rw [h] at this
      cases this
      rw [upd_same]
    · rw [upd_ne ha]
      exact e
  · have e : upd W.L d (.frz o u) a = some x := e
    by_cases ha : a = d
    · subst ha
      rw [upd_same] at e
      cases e
      exact ⟨h, rfl⟩
    · rw [upd_ne ha] at e
      exact wd.lu a x e
/-- data is locked, for good -/
theorem Wd.lockF {S : Sto} {H : Hp} (wd : Wd K W H S) (f : W.F d = some (.dK vs)) (h : H d = some (.dK vs)) (o : PySem.Obj) : Wd K W (upd H d (.frz o (.dK vs))) S := by
  have nL : W.L d = none := wd.notL h rfl
  refine ⟨fun a u e => ?_, wd.len, wd.nd, fun j b x e1 e2 => ?_, fun a u e => ?_, wd.luUpd nL⟩
  · by_cases ha : a = d
    · subst ha
      rw [f] at e
      cases e
      exact .inr ⟨rfl, o, upd_same⟩
    · rw [upd_ne ha]
      exact wd.sub a u e
  · by_cases hb : b = d
    · subst hb
      have q := wd.ob j b x e1 e2
      cases x with
      | lst xs fz =>
        obtain ⟨ws, h1, _⟩ := q
        rw [h] at h1
        cases h1
      | ins _ _ => exact q.elim
      | dic ks fz lk =>
        obtain ⟨ws, h1, h2, h3⟩ := q
        cases fz with
        | false =>
          rw [f] at h3
          cases h3
        | true =>
          have ew : ws = vs := by
            rcases h1 with h1 | ⟨_, _, h1⟩
            · rw [h] at h1
              cases h1
              rfl
            · rw [h] at h1
              cases h1
          subst ew
          exact ⟨ws, .inr ⟨.inl rfl, o, upd_same⟩, h2, h3⟩
    · exact (wd.ob j b x e1 e2).stay (fun _ _ z => z) (upd_ne hb) fun z => z
  · obtain ⟨g1, g2, g3⟩ := wd.gu a u e
    refine ⟨?_, g2, g3⟩
    rw [upd_ne fun z => by rw [z, f] at g2; cases g2]
    exact g1
/-- .. an object that may be locked is locked, for good -/
theorem Wd.lockO {S : Sto} {H : Hp} {k : Nat} {fz lk : Bool} (wd : Wd K W H S) (e : W.ρ[k]? = some d) (es : S[k]? = some (.dic kvs fz lk)) (hf : fz = true ∨ lk = true) (h : H d = some (.dK vs)) (o : PySem.Obj) : Wd K W (upd H d (.frz o (.dK vs))) S := by
  have nL : W.L d = none := wd.notL h rfl
  obtain ⟨ws, h1, h2, h3⟩ := wd.ob k d _ e es
  have ew : ws = vs := by
    rcases h1 with h1 | ⟨_, _, h1⟩
    · rw [h] at h1
      cases h1
      rfl
    · rw [h] at h1
      cases h1
  subst ew
  refine ⟨fun a u ea => ?_, wd.len, wd.nd, fun j b x e1 e2 => ?_, fun a u ea => ?_, wd.luUpd nL⟩
  · by_cases ha : a = d
    · subst ha
      rw [ea] at h3
      cases fz with
      | false => cases h3
      | true =>
        cases h3
        exact .inr ⟨rfl, o, upd_same⟩
    · rw [upd_ne ha]
      exact wd.sub a u ea
  · by_cases hb : b = d
    · subst hb
      have ej := ix_inj wd.nd e1 e
      subst ej
      rw [es] at e2
      cases e2
      exact ⟨ws, .inr ⟨hf, o, upd_same⟩, h2, h3⟩
    · exact (wd.ob j b x e1 e2).stay (fun _ _ z => z) (upd_ne hb) fun z => z
  · obtain ⟨g1, g2, g3⟩ := wd.gu a u ea
    exact ⟨(upd_ne fun z => g3 (by rw [z]; exact List.mem_of_getElem? e)).trans g1, g2, g3⟩
end
/-! ### a list comprehension's block -/
section
variable {K : PySem.W.Frag}
/-- f at each of the data keeps what is watched, and hands on a datum or none -/
theorem lc_run {g : TG} {tt : TT} {te : TE} {sl : List Nat} {σ : L2.St} {f : PyData → Sto → Option (Option PyData × Sto)} {J : It} {H1 : Hp} {D : Addr} {W1 : Wo} {S1 S2 : Sto} {xs ys : List PyData} {Q : VK} {L : Sto → Bool} {ia : PyData → A} (wd : Wd K W1 H1 S1) (wk : Wk K W1 L J ia xs) (hL : L S1 = true) (hf : ∀ x S o S', f x S = some (o, S') → L S' = true) (hD : H1 D = none) (e : compL f xs S1 = some (ys, S2))
    (step : ∀ (W : Wo) (H : Hp) (S S' : Sto) (x : V) (d : PyData) (o : Option PyData) (Q1 : Hp → Prop) (Q2 : V → Hp → Prop), Lx W1 W → Wd K W H S → Ra K W x (ia d) → f d S = some (o, S') →
      (o = none → ∀ W' H', Le W W' → Wd K W' H' S' → Q1 H') → (∀ z, o = some z → ∀ W' y H', Le W W' → Wd K W' H' S' → Rp K W'.F y z → Q2 y H') →
      g x (wipe σ sl) H fun σ2 H2 => wipe σ2 sl = wipe σ sl ∧ tt σ2 H2 fun b H3 => if b = true then te σ2 H3 Q2 else Q1 H3)
    (q : L S2 = true → KtN K W1 S2 ys Q) :
    ∃ Wi : Nat → Nat → Hp → Prop, (∃ m, Wi 0 m (upd H1 D (.lst []))) ∧ ∀ i m H, Wi i m H →
      (J.stop i H ∧ Q (.ref D) H) ∨ (J.go i H ∧ ∃ Nx : Hp → Prop, (∀ H', Nx H' → ∃ m', m' < m ∧ Wi (i + 1) m' H') ∧ ∀ x H', J.yld i H x H' → g x (wipe σ sl) H' fun σ2 H2 => wipe σ2 sl = wipe σ sl ∧ tt σ2 H2 fun b H3 =>
        if b = true then te σ2 H3 fun y H4 => ∃ acc, H4 D = some (.lst acc) ∧ acc.length < sizeLine ∧ Nx (upd H4 D (.lst (acc ++ [y]))) else Nx H3) := by
  -- the state between two turns
  let Iv : Nat → Hp → Prop := fun i H => ∃ W S vs acc rest, Le W1 W ∧ Wd K W H S ∧ L S = true ∧ H D = some (.lst vs) ∧ W.F D = none ∧ D ∉ W.ρ ∧ W.G D = none ∧ RpA K W.F vs acc ∧ vs.length ≤ i ∧ compL f (xs.drop i) S = some (rest, S2) ∧ acc ++ rest = ys
  refine ⟨fun i m H => m = xs.length - i ∧ i ≤ xs.length ∧ Iv i H, ⟨xs.length, by simp, Nat.zero_le _, W1, S1, [], [], ys, .refl _, wd.junk hD, hL, upd_same, wd.freeF hD, wd.notin hD, wd.freeG hD, .nil, Nat.le_refl _, by simpa using e, rfl⟩, ?_⟩
  rintro i m H ⟨rfl, hi, W, S, vs, acc, rest, le, wdi, hl, hd, nF, nr, nG, ra, hv, er, ea⟩
  by_cases hlt : i < xs.length
  · refine .inr ⟨wk.go W H S i le.x wdi hl hlt, Iv (i + 1), fun H' h' => ⟨xs.length - (i + 1), by omega, rfl, hlt, h'⟩, fun x H' y => ?_⟩
    have lw : Lx W1 ⟨W.F, W.ρ, upd W.G D (.lst vs), W.L⟩ := ⟨le.F, le.ρ, le.L⟩
    obtain ⟨W3, d, le3, wd3, ed, rd⟩ := wk.yld ⟨W.F, W.ρ, upd W.G D (.lst vs), W.L⟩ H H' S i x lw (wdi.watch hd nF nr) hl hlt y
    have l13 : Lx W1 W3 := lw.trans le3.x
    have g3 : W3.G = upd W.G D (.lst vs) := le3.G
    rw [List.drop_eq_getElem_cons hlt] at er
    have ed' : xs[i] = d := by
      rw [List.getElem?_eq_getElem hlt] at ed
      exact Option.some.inj ed
    rw [ed'] at er
    unfold compL at er
    split at er
    · cases er
    · rename_i o S3 ef
      split at er
      · cases er
      · rename_i rest' S4 ec
        cases er
        -- behind the turn: what is watched stands
        have see : ∀ {W' H'}, Le W3 W' → Wd K W' H' S3 → H' D = some (.lst vs) ∧ W'.F D = none ∧ D ∉ W'.ρ ∧ Le W1 ⟨W'.F, W'.ρ, W.G, W'.L⟩ ∧ Wd K ⟨W'.F, W'.ρ, W.G, W'.L⟩ H' S3 ∧ RpA K W'.F vs acc := fun {W' H'} le' wd' => by
          have g' : W'.G = upd W.G D (.lst vs) := le'.G.trans g3
          obtain ⟨f0, f1, f2⟩ := wd'.gu D (.lst vs) (by rw [g', upd_same])
          have lx := l13.trans le'.x
          refine ⟨f0, f1, f2, ⟨lx.F, lx.ρ, le.G, lx.L⟩, wd'.unwatch fun a u z => ?_, ra.le fun a u z => le'.F a u (le3.F a u z)⟩
          rw [g', upd_ne (ne_of_none (H := W.G) z nG)]
          exact z
        refine step W3 H' S S3 x d o _ _ l13 wd3 rd ef (fun eo W' H'' le' wd' => ?_) fun z eo W' y' H'' le' wd' ry => ?_
        · obtain ⟨f0, f1, f2, f3, f4, f5⟩ := see le' wd'
          subst eo
          exact ⟨_, S3, vs, acc, rest', f3, f4, hf _ _ _ _ ef, f0, f1, f2, nG, f5, Nat.le_succ_of_le hv, ec, ea⟩
        · obtain ⟨f0, f1, f2, f3, f4, f5⟩ := see le' wd'
          subst eo
          have hsz : xs.length ≤ sizeLine := szl wk.sz
          refine ⟨vs, f0, by omega, ⟨W'.F, W'.ρ, W.G, W'.L⟩, S3, vs ++ [y'], acc ++ [z], rest', f3, f4.heap fun b => ?_, hf _ _ _ _ ef, upd_same, f1, f2, nG, f5.append (.cons ry .nil), by rw [List.length_append]; show vs.length + 1 ≤ i + 1; omega, ec, by simpa using ea⟩
          by_cases hb : b = D
          · subst hb
            exact .inr ⟨f1, f2, nG, f4.notL f0 rfl⟩
          · exact .inl (upd_ne hb)
  · have ei : i = xs.length := by omega
    subst ei
    rw [List.drop_length] at er
    cases er
    refine .inl ⟨wk.stop W H _ le.x wdi hl, ?_⟩
    have ey : acc = ys := by simpa using ea
    subst ey
    exact q hl W D vs H le wdi nF nr nG hd ra
/-- .. a pair or none -/
theorem dc_run {g : TG} {tt : TT} {tk tv : TE} {sl : List Nat} {σ : L2.St} {f : PyData → Sto → Option (Option (PyData × PyData) × Sto)} {J : It} {H1 : Hp} {D : Addr} {W1 : Wo} {S1 S2 : Sto} {xs : List PyData} {ys : List (PyData × PyData)} {Q : VK} {L : Sto → Bool} {ia : PyData → A} (wd : Wd K W1 H1 S1) (wk : Wk K W1 L J ia xs) (hL : L S1 = true) (hf : ∀ x S o S', f x S = some (o, S') → L S' = true) (hD : H1 D = none) (e : compDL f xs [] S1 = some (ys, S2))
    (step : ∀ (W : Wo) (H : Hp) (S S' : Sto) (x : V) (d : PyData) (o : Option (PyData × PyData)) (Q1 : Hp → Prop) (Q2 : V → V → Hp → Prop), Lx W1 W → Wd K W H S → Ra K W x (ia d) → f d S = some (o, S') → (∀ z, o = some z → (keyD z.1).isSome = true) →
      (o = none → ∀ W' H', Le W W' → Wd K W' H' S' → Q1 H') → (∀ z k, o = some z → keyD z.1 = some k → ∀ W' y H', Le W W' → Wd K W' H' S' → Rp K W'.F y z.2 → Q2 (kV k) y H') →
      g x (wipe σ sl) H fun σ2 H2 => wipe σ2 sl = wipe σ sl ∧ tt σ2 H2 fun b H3 => if b = true then tk σ2 H3 (fun y H4 => tv σ2 H4 (Q2 y)) else Q1 H3)
    (q : L S2 = true → KtND K W1 S2 ys Q) :
    ∃ Wi : Nat → Nat → Hp → Prop, (∃ m, Wi 0 m (upd H1 D (.dK []))) ∧ ∀ i m H, Wi i m H →
      (J.stop i H ∧ Q (.ref D) H) ∨ (J.go i H ∧ ∃ Nx : Hp → Prop, (∀ H', Nx H' → ∃ m', m' < m ∧ Wi (i + 1) m' H') ∧ ∀ x H', J.yld i H x H' → g x (wipe σ sl) H' fun σ2 H2 => wipe σ2 sl = wipe σ sl ∧ tt σ2 H2 fun b H3 =>
        if b = true then tk σ2 H3 fun y H4 => tv σ2 H4 fun z H5 => ∃ kvs k, y = kV k ∧ H5 D = some (.dK kvs) ∧ kvs.length < sizeLine ∧ Nx (upd H5 D (.dK (putK kvs k z))) else Nx H3) := by
  -- the state between two turns
  let Iv : Nat → Hp → Prop := fun i H => ∃ W S vs acc, Le W1 W ∧ Wd K W H S ∧ L S = true ∧ H D = some (.dK vs) ∧ W.F D = none ∧ D ∉ W.ρ ∧ W.G D = none ∧ RpK K W.F vs acc ∧ vs.length ≤ i ∧ compDL f (xs.drop i) acc S = some (ys, S2)
  refine ⟨fun i m H => m = xs.length - i ∧ i ≤ xs.length ∧ Iv i H, ⟨xs.length, by simp, Nat.zero_le _, W1, S1, [], [], .refl _, wd.junk hD, hL, upd_same, wd.freeF hD, wd.notin hD, wd.freeG hD, .nil, Nat.le_refl _, by simpa using e⟩, ?_⟩
  rintro i m H ⟨rfl, hi, W, S, vs, acc, le, wdi, hl, hd, nF, nr, nG, ra, hv, er⟩
  by_cases hlt : i < xs.length
  · refine .inr ⟨wk.go W H S i le.x wdi hl hlt, Iv (i + 1), fun H' h' => ⟨xs.length - (i + 1), by omega, rfl, hlt, h'⟩, fun x H' y => ?_⟩
    have lw : Lx W1 ⟨W.F, W.ρ, upd W.G D (.dK vs), W.L⟩ := ⟨le.F, le.ρ, le.L⟩
    obtain ⟨W3, d, le3, wd3, ed, rd⟩ := wk.yld ⟨W.F, W.ρ, upd W.G D (.dK vs), W.L⟩ H H' S i x lw (wdi.watch hd nF nr) hl hlt y
    have l13 : Lx W1 W3 := lw.trans le3.x
    have g3 : W3.G = upd W.G D (.dK vs) := le3.G
    rw [List.drop_eq_getElem_cons hlt] at er
    have ed' : xs[i] = d := by
      rw [List.getElem?_eq_getElem hlt] at ed
      exact Option.some.inj ed
    rw [ed'] at er
    unfold compDL at er
    have fin : ∀ {o : Option (PyData × PyData)} {S3 : Sto}, f d S = some (o, S3) → (match o with | none => compDL f (xs.drop (i + 1)) acc S3 | some p => if (keyD p.1).isSome = true ∧ acc.length < 16777216 then compDL f (xs.drop (i + 1)) (putP acc p.1 p.2) S3 else none) = some (ys, S2) → g x (wipe σ sl) H' fun σ2 H2 => wipe σ2 sl = wipe σ sl ∧ tt σ2 H2 fun b H3 =>
        if b = true then tk σ2 H3 fun y H4 => tv σ2 H4 fun z H5 => ∃ kvs k, y = kV k ∧ H5 D = some (.dK kvs) ∧ kvs.length < sizeLine ∧ Iv (i + 1) (upd H5 D (.dK (putK kvs k z))) else Iv (i + 1) H3 := fun {o S3} ef ec => by
        -- behind the turn: what is watched stands
        have see : ∀ {W' H'}, Le W3 W' → Wd K W' H' S3 → H' D = some (.dK vs) ∧ W'.F D = none ∧ D ∉ W'.ρ ∧ Le W1 ⟨W'.F, W'.ρ, W.G, W'.L⟩ ∧ Wd K ⟨W'.F, W'.ρ, W.G, W'.L⟩ H' S3 ∧ RpK K W'.F vs acc := fun {W' H'} le' wd' => by
          have g' : W'.G = upd W.G D (.dK vs) := le'.G.trans g3
          obtain ⟨f0, f1, f2⟩ := wd'.gu D (.dK vs) (by rw [g', upd_same])
          have lx := l13.trans le'.x
          refine ⟨f0, f1, f2, ⟨lx.F, lx.ρ, le.G, lx.L⟩, wd'.unwatch fun a u z => ?_, ra.le fun a u z => le'.F a u (le3.F a u z)⟩
          rw [g', upd_ne (ne_of_none (H := W.G) z nG)]
          exact z
        refine step W3 H' S S3 x d o _ _ l13 wd3 rd ef (fun z eo => by
          subst eo
          simp only at ec
          split at ec
          · rename_i hc
            exact hc.1
          · cases ec) (fun eo W' H'' le' wd' => ?_) fun z ky eo hk W' y' H'' le' wd' ry => ?_
        · obtain ⟨f0, f1, f2, f3, f4, f5⟩ := see le' wd'
          subst eo
          exact ⟨_, S3, vs, acc, f3, f4, hf _ _ _ _ ef, f0, f1, f2, nG, f5, Nat.le_succ_of_le hv, ec⟩
        · obtain ⟨f0, f1, f2, f3, f4, f5⟩ := see le' wd'
          subst eo
          simp only at ec
          split at ec
          · rename_i hc
            have hz : vs.length < sizeLine := by rw [f5.length, sizeLine_eq]; exact hc.2
            refine ⟨vs, ky, rfl, f0, hz, ⟨W'.F, W'.ρ, W.G, W'.L⟩, S3, putK vs ky y', putP acc z.1 z.2, f3, f4.heap fun b => ?_, hf _ _ _ _ ef, upd_same, f1, f2, nG, f5.put hk ry, Nat.le_trans (length_putK vs ky y') (Nat.succ_le_succ hv), ec⟩
            by_cases hb : b = D
            · subst hb
              exact .inr ⟨f1, f2, nG, f4.notL f0 rfl⟩
            · exact .inl (upd_ne hb)
          · cases ec
    split at er
    · cases er
    · rename_i S3 ef
      exact fin ef er
    · rename_i p S3 ef
      exact fin ef er
  · have ei : i = xs.length := by omega
    subst ei
    rw [List.drop_length] at er
    cases er
    refine .inl ⟨wk.stop W H _ le.x wdi hl, ?_⟩
    exact q hl W D vs H le wdi nF nr nG hd ra
end
end PV

/-! PV12: the soundness of expressions, case by case. -/
namespace PV
open PySem PySem.Spec PyProof.Rows L2
theorem Lx.get {W W' : Wo} (h : Lx W W') {k : Nat} {a : Addr} (e : W.ρ[k]? = some a) : W'.ρ[k]? = some a := Le.get (W := W) (W' := ⟨W'.F, W'.ρ, W.G, W'.L⟩) ⟨h.F, h.ρ, rfl, h.L⟩ e
theorem Ra.lx {K : PySem.W.Frag} {W W' : Wo} (h : Lx W W') : ∀ {a : A} {v : V}, Ra K W v a → Ra K W' v a
  | .d _, _, r => Rp.le h.F r
  | .obj _, _, ⟨a, e, r⟩ => ⟨a, h.get e, r⟩
  | .pr _ _, _, ⟨p, vx, vy, e, q, r1, r2⟩ => ⟨p, vx, vy, e, h.F.seqT q, Ra.lx h r1, Ra.lx h r2⟩
  | .seq _, _, ⟨p, e, q⟩ => ⟨p, e, h.F.seqL q⟩
theorem Re.lx {K : PySem.W.Frag} {W W' : Wo} {σ : L2.St} {env : En} (h : Re K W σ env) (l : Lx W W') : Re K W' σ env := ⟨h.len, fun i a e => let ⟨v, e1, r⟩ := h.at_ i a e; ⟨v, e1, r.lx l⟩⟩
section
variable {nm : Nm} {Φ : List Fs} {Γ : List PyData} {lv : Nat} {X : Cx} (at_ : At nm Φ Γ lv X)
include at_
theorem c_var {i : Nat} {x : Str} {pos : Pos} (h1 : X.N[i]? = some x) (h2 : Vis X.env.scope x) (h3 : plainNm x = true) : PE X (.Name x pos) (rdE X.K Φ Γ (.var i)) := by
  obtain ⟨_, p2, p3⟩ := plainNm_ok h3
  refine PE_imp (pe_var h1 h2 p2 p3) fun σ H Q ⟨W, env, S, a, S', wd, re, e, q⟩ => ?_
  simp only [ev] at e
  split at e
  · rename_i a' ea
    cases e
    obtain ⟨v, h1, r⟩ := re.at_ _ _ ea
    exact ⟨v, h1, q W v H (.refl W) wd r⟩
  · cases e
theorem c_cst {c : PyData} {k : Const} {j : Nat} {pos : Pos} (h : cstOk c k = true) : PE X (.Constant k j pos) (rdE X.K Φ Γ (.cst c)) := by
  have go : ∀ {v : V}, PE X (.Constant k j pos) (tC v) → (∀ F, Rp X.K F v c) → PE X (.Constant k j pos) (rdE X.K Φ Γ (.cst c)) := fun hp hr => by
    refine PE_imp hp fun σ H Q ⟨W, env, S, a, S', wd, re, e, q⟩ => ?_
    simp only [ev] at e
    cases e
    exact q.flat wd (hr _)
  unfold cstOk at h
  split at h
  · split at h
    · exact go pe_non fun _ => .non
    · cases h
  · split at h
    · rename_i b _ b'
      have : b = b' := by simpa using h
      subst this
      exact go pe_bl fun _ => .bl _
    · cases h
  · split at h
    · rename_i b _ b'
      have : b = b' := of_decide_eq_true h
      subst this
      exact go pe_int fun _ => .int _
    · cases h
  · split at h
    · rename_i b _ b'
      have : b = b' := of_decide_eq_true h
      subst this
      exact go pe_str fun _ => .str _
    · cases h
  · cases h
theorem c_glb {i : Nat} {x : Str} {pos : Pos} (h1 : nm.gl[i]? = some x) (h2 : isGl X.env.scope x = true) (h3 : plainNm x = true) : PE X (.Name x pos) (rdE X.K Φ Γ (.glb i)) := by
  obtain ⟨p1, p2, p3⟩ := plainNm_ok h3
  obtain ⟨u, v, d, g1, g2, g3, g4⟩ := at_.gls i x h1
  refine PE_imp (pe_glob (isGl_ok h2) g2 g3 p2) fun σ H Q ⟨W, env, S, a, S', wd, re, e, q⟩ => ?_
  simp only [ev, g1] at e
  cases e
  exact q.flat wd (g4 _)
theorem evs_len : ∀ {es : Exs} {env : En} {S S' : Sto} {as : List A} {xs : List Expr} {sc : Scope} {ow : Str → Bool}, evs Φ Γ es env S = some (as, S') → agEs nm X.N sc ow es xs = true → as.length = xs.length
  | .nil, _, _, _, _, xs, _, _, e, h => by
    simp only [evs] at e
    cases e
    cases xs with
    | nil => rfl
    | cons x xs => simp [agEs] at h
  | .cons e1 es, env, S, S', as, xs, sc, ow, e, h => by
    simp only [evs] at e
    split at e
    · cases e
    · split at e
      · cases e
      · rename_i a S1 _ as' S2 e2
        cases e
        cases xs with
        | nil => simp [agEs] at h
        | cons x xs =>
          simp only [agEs, Bool.and_eq_true] at h
          rw [List.length_cons, List.length_cons, evs_len e2 h.2]
theorem c_tup {es : Exs} {xs : List Expr} {k : Nat} {pos : Pos} {sc : Scope} {ow : Str → Bool} (hl : xs.length ≤ 1000) (ha : agEs nm X.N sc ow es xs = true) (hp : PA X xs (rdA X.K Φ Γ es)) : PE X (.Tuple xs k pos) (rdE X.K Φ Γ (.tup es)) := by
  refine PE_imp (pe_tupP hp) fun σ H Q ⟨W, env, S, a, S', wd, re, e, q⟩ => ?_
  simp only [ev] at e
  split at e
  · cases e
  · rename_i as S1 e1
    refine ⟨W, env, S, as, S1, wd, re, e1, fun W1 vs H1 le1 wd1 ra1 => ⟨?_, fun p o hn ho => ?_⟩⟩
    · rw [ra1.length, evs_len at_ e1 ha]
      exact Nat.le_of_lt (small1000 hl)
    · split at e
      · rename_i ds S2 e2
        cases e
        obtain ⟨W2, le2, _, wd2, r2⟩ := wd1.frzAll ra1 e2
        have q2 : Kt X.K W2 _ (.d (.tuple ds)) Q := fun W' v H' l => q W' v H' ((le1.trans le2).trans l)
        exact q2.newT wd2 r2 p o hn ho
      · split at e
        · rename_i x y _
          cases e
          cases ra1 with
          | cons r1 t =>
            cases t with
            | cons r2 t =>
              cases t
              have nF := wd1.freeF hn
              exact q _ _ _ (le1.trans (.upd nF)) (wd1.pure hn) ⟨p, _, _, rfl, .inl (.inr ⟨o, upd_same⟩), r1.le (.upd nF), r2.le (.upd nF)⟩
        · cases e
theorem c_lstN {es : Exs} {xs : List Expr} {pos : Pos} {sc : Scope} {ow : Str → Bool} (hl : xs.length ≤ 1000) (ha : agEs nm X.N sc ow es xs = true) (hp : PA X xs (rdA X.K Φ Γ es)) : PE X (.List xs pos) (rdN X.K Φ Γ (.lst es)) := by
  refine PE_imp (pe_lst hp) fun σ H Q ⟨W, env, S, ds, S', wd, re, e, q⟩ => ?_
  simp only [ev] at e
  split at e
  · cases e
  · rename_i as S1 e1
    refine ⟨W, env, S, as, S1, wd, re, e1, fun W1 vs H1 le1 wd1 ra1 => ⟨?_, fun p hn => ?_⟩⟩
    · rw [ra1.length, evs_len at_ e1 ha]
      exact Nat.le_of_lt (small1000 hl)
    · split at e
      · rename_i ds' S2 e2
        cases e
        obtain ⟨W2, le2, eρ, wd2, r2⟩ := wd1.frzAll ra1 e2
        exact q W2 p vs _ (le1.trans le2) (wd2.junk hn) (wd2.freeF hn) (wd2.notin hn) (wd2.freeG hn) upd_same r2
      · cases e
/-- a new list that is told at once -/
theorem c_ofN {e : Ex} {ast : Expr} (h : PE X ast (rdN X.K Φ Γ e)) (hd : ∀ env S a S', ev Φ Γ e env S = some (a, S') → ∃ ds, a = .d (.list ds)) : PE X ast (rdE X.K Φ Γ e) := by
  refine PE_imp h fun σ H Q ⟨W, env, S, a, S', wd, re, e1, q⟩ => ?_
  obtain ⟨ds, rfl⟩ := hd _ _ _ _ e1
  refine ⟨W, env, S, ds, S', wd, re, e1, fun W1 p vs H1 le1 wd1 nF nr nG hp r => ?_⟩
  exact q ⟨upd W1.F p (.lst vs), W1.ρ, W1.G, W1.L⟩ _ H1 (le1.trans (.upd nF)) (wd1.keep hp nF nr nG) (.lst upd_same (r.le (leF_upd nF)))
theorem c_ofND {e : Ex} {ast : Expr} (h : PE X ast (rdND X.K Φ Γ e)) (hd : ∀ env S a S', ev Φ Γ e env S = some (a, S') → ∃ ds, a = .d (.dict ds)) : PE X ast (rdE X.K Φ Γ e) := by
  refine PE_imp h fun σ H Q ⟨W, env, S, a, S', wd, re, e1, q⟩ => ?_
  obtain ⟨ds, rfl⟩ := hd _ _ _ _ e1
  refine ⟨W, env, S, ds, S', wd, re, e1, fun W1 p vs H1 le1 wd1 nF nr nG hp r => ?_⟩
  exact q ⟨upd W1.F p (.dK vs), W1.ρ, W1.G, W1.L⟩ _ H1 (le1.trans (.upd nF)) (wd1.keep hp nF nr nG) (.dicK upd_same (r.le (leF_upd nF)))
theorem c_freshD {e : Ex} {ast : Expr} (h : PE X ast (rdND X.K Φ Γ e)) (hd : ∀ env S a S', ev Φ Γ e env S = some (a, S') → ∃ ds, a = .d (.dict ds)) : PE X ast (rdE X.K Φ Γ (.fresh e)) := by
  refine PE_imp h fun σ H Q ⟨W, env, S, a, S', wd, re, e1, q⟩ => ?_
  simp only [ev] at e1
  split at e1
  · rename_i x S1 e2
    obtain ⟨ds, hds⟩ := hd _ _ _ _ e2
    cases hds
    simp only [newOb] at e1
    cases e1
    refine ⟨W, env, S, ds, S1, wd, re, e2, fun W1 p vs H1 le1 wd1 nF nr nG hp r => ?_⟩
    refine q ⟨W1.F, W1.ρ ++ [p], W1.G, W1.L⟩ _ H1 (le1.trans .newOb) (wd1.newOb nr nG ⟨vs, .inl hp, r, by simpa using nF⟩) ⟨p, ?_, rfl⟩
    show (W1.ρ ++ [p])[S1.length]? = some p
    rw [← wd1.len]
    simp
  · cases e1
theorem c_fresh {e : Ex} {ast : Expr} (h : PE X ast (rdN X.K Φ Γ e)) (hd : ∀ env S a S', ev Φ Γ e env S = some (a, S') → ∃ ds, a = .d (.list ds)) : PE X ast (rdE X.K Φ Γ (.fresh e)) := by
  refine PE_imp h fun σ H Q ⟨W, env, S, a, S', wd, re, e1, q⟩ => ?_
  simp only [ev] at e1
  split at e1
  · rename_i x S1 e2
    obtain ⟨ds, hds⟩ := hd _ _ _ _ e2
    cases hds
    simp only [newOb] at e1
    cases e1
    refine ⟨W, env, S, ds, S1, wd, re, e2, fun W1 p vs H1 le1 wd1 nF nr nG hp r => ?_⟩
    refine q ⟨W1.F, W1.ρ ++ [p], W1.G, W1.L⟩ _ H1 (le1.trans .newOb) (wd1.newOb nr nG ⟨vs, hp, r, by simpa using nF⟩) ⟨p, ?_, rfl⟩
    show (W1.ρ ++ [p])[S1.length]? = some p
    rw [← wd1.len]
    simp
  · cases e1
theorem c_bin {o : Operator} {a b : Ex} {l r : Expr} {pos : Pos} (ha : PE X l (rdE X.K Φ Γ a)) (hb : PE X r (rdE X.K Φ Γ b)) : PE X (.BinOp l o r pos) (rdE X.K Φ Γ (.bin o a b)) := by
  refine PE_imp (pe_op (op_bin o) ha hb) fun σ H Q ⟨W, env, S, a', S', wd, re, e, q⟩ => ?_
  simp only [ev] at e
  split at e
  · cases e
  · rename_i x S1 e1
    split at e
    · cases e
    · rename_i y S2 e2
      cases e3 : binF o x y S2 with
      | none =>
        rw [e3] at e
        cases e
      | some c =>
        rw [e3] at e
        cases e
        exact ⟨W, env, S, x, S1, wd, re, e1, fun W1 v1 H1 le1 wd1 r1 => ⟨W1, env, S1, y, _, wd1, re.le le1, e2, fun W2 v2 H2 le2 wd2 r2 => ⟨W2, _, x, y, _, wd2, r1.le le2, r2, e3, fun W' v H' l => q W' v H' ((le1.trans le2).trans l)⟩⟩⟩
theorem c_neg {a : Ex} {l : Expr} {pos : Pos} (ha : PE X l (rdE X.K Φ Γ a)) : PE X (.UnaryOp .USub l pos) (rdE X.K Φ Γ (.neg a)) := by
  refine PE_imp (pe_un un_neg ha) fun σ H Q ⟨W, env, S, a', S', wd, re, e, q⟩ => ?_
  simp only [ev] at e
  split at e
  · rename_i i S1 e1
    cases e
    refine ⟨W, env, S, _, _, wd, re, e1, fun W1 v1 H1 le1 wd1 r1 => ?_⟩
    cases r1
    exact ⟨i, rfl, q W1 _ H1 le1 wd1 (.int _)⟩
  · cases e
theorem c_cmp {o : CmpOp} {a b : Ex} {l r : Expr} {pos : Pos} (hm : behindInMarks o r = false) (ha : PE X l (rdE X.K Φ Γ a)) (hb : PE X r (rdE X.K Φ Γ b)) : PE X (.Compare l [o] [r] pos) (rdE X.K Φ Γ (.cmp o a b)) := by
  refine PE_imp (pe_cmpR (op_cmpF o at_.hu) ha hb hm) fun σ H Q ⟨W, env, S, a', S', wd, re, e, q⟩ => ?_
  simp only [ev] at e
  split at e
  · cases e
  · rename_i x S1 e1
    split at e
    · cases e
    · rename_i y S2 e2
      cases e3 : cmpF o x y S2 with
      | none =>
        rw [e3] at e
        cases e
      | some c =>
        rw [e3] at e
        cases e
        exact ⟨W, env, S, x, S1, wd, re, e1, fun W1 v1 H1 le1 wd1 r1 => ⟨W1, env, S1, y, _, wd1, re.le le1, e2, fun W2 v2 H2 le2 wd2 r2 => ⟨W2, _, x, y, .d (.bool c), wd2, r1.le le2, r2, by simp only [e3]; rfl, fun W' v H' l => q W' v H' ((le1.trans le2).trans l)⟩⟩⟩
theorem c_cmpT {o : CmpOp} {a b : Ex} {l r : Expr} {pos : Pos} (hm : behindInMarks o r = false) (ha : PE X l (rdE X.K Φ Γ a)) (hb : PE X r (rdE X.K Φ Γ b)) : PT X (.Compare l [o] [r] pos) (rdT X.K Φ Γ (.cmp o a b)) := by
  refine PT_imp (pt_cmpR (op_cmpF o at_.hu) ha hb hm) fun σ H Q ⟨W, env, S, a', S', k, wd, re, e, et, q⟩ => ?_
  simp only [ev] at e
  split at e
  · cases e
  · rename_i x S1 e1
    split at e
    · cases e
    · rename_i y S2 e2
      cases e3 : cmpF o x y S2 with
      | none =>
        rw [e3] at e
        cases e
      | some c =>
        rw [e3] at e
        cases e
        have ek : k = c := (Option.some.inj et).symm
        subst ek
        exact ⟨W, env, S, x, S1, wd, re, e1, fun W1 v1 H1 le1 wd1 r1 => ⟨W1, env, S1, y, _, wd1, re.le le1, e2, fun W2 v2 H2 le2 wd2 r2 => ⟨W2, _, x, y, .d (.bool k), wd2, r1.le le2, r2, by simp only [e3]; rfl, fun W' v H' l w' r' => by
          cases r'
          exact ⟨k, rfl, q W' H' ((le1.trans le2).trans l) w'⟩⟩⟩⟩
omit at_ in
theorem chn_t {o p : CmpOp} {a b c : Ex} {W : Wo} {env : En} {S S' : Sto} {σ : L2.St} {H : Hp} {c' : A} {Q : VK} (wd : Wd X.K W H S) (re : Re X.K W σ env) (e : ev Φ Γ (.chn o p a b c) env S = some (c', S')) (q : ∀ W' k H', Le W W' → Wd X.K W' H' S' → c' = .d (.bool k) → Q (.bl k) H') :
    tChain (rB X.K fun a b S => (cmpF o a b S).map fun c => .d (.bool c)) (rB X.K fun a b S => (cmpF p a b S).map fun c => .d (.bool c)) (rdE X.K Φ Γ a) (rdE X.K Φ Γ b) (rdE X.K Φ Γ c) σ H Q := by
  simp only [ev] at e
  split at e
  · cases e
  · rename_i x S1 e1
    split at e
    · cases e
    · rename_i y S2 e2
      refine ⟨W, env, S, x, S1, wd, re, e1, fun W1 v1 H1 le1 wd1 r1 => ⟨W1, env, S1, y, S2, wd1, re.le le1, e2, fun W2 v2 H2 le2 wd2 r2 => ?_⟩⟩
      split at e
      · cases e
      · rename_i e3
        cases e
        refine ⟨W2, _, x, y, .d (.bool false), wd2, r1.le le2, r2, by simp only [e3]; rfl, fun W' v H' l w' r' => ?_⟩
        cases r'
        refine ⟨false, rfl, ?_⟩
        rw [if_neg Bool.false_ne_true]
        exact q W' false H' ((le1.trans le2).trans l) w' rfl
      · rename_i e3
        refine ⟨W2, _, x, y, .d (.bool true), wd2, r1.le le2, r2, by simp only [e3]; rfl, fun W' v H' l w' r' => ?_⟩
        cases r'
        refine ⟨true, rfl, ?_⟩
        rw [if_pos rfl]
        split at e
        · cases e
        · rename_i z S3 e4
          cases e5 : cmpF p y z S3 with
          | none =>
            rw [e5] at e
            cases e
          | some k =>
            rw [e5] at e
            cases e
            refine ⟨W', env, S2, z, _, w', ((re.le le1).le le2).le l, e4, fun W4 v4 H4 le4 wd4 r4 => ?_⟩
            refine ⟨W4, _, y, z, .d (.bool k), wd4, (r2.le l).le le4, r4, by simp only [e5]; rfl, fun W5 v5 H5 l5 w5 r5 => ?_⟩
            cases r5
            exact q W5 k H5 ((((le1.trans le2).trans l).trans le4).trans l5) w5 rfl
theorem c_chn {o p : CmpOp} {a b c : Ex} {l r t : Expr} {pos : Pos} (hm : behindInMarks p t = false) (ha : PE X l (rdE X.K Φ Γ a)) (hb : PE X r (rdE X.K Φ Γ b)) (hc : PE X t (rdE X.K Φ Γ c)) : PE X (.Compare l [o, p] [r, t] pos) (rdE X.K Φ Γ (.chn o p a b c)) := by
  refine PE_imp (pe_chain (op_cmpF o at_.hu) (op_cmpF p at_.hu) ha hb hc hm) fun σ H Q ⟨W, env, S, a', S', wd, re, e, q⟩ => ?_
  exact chn_t wd re e fun W' k H' le wd' ek => q W' _ H' le wd' (by rw [ek]; exact .bl k)
theorem c_chnT {o p : CmpOp} {a b c : Ex} {l r t : Expr} {pos : Pos} (hm : behindInMarks p t = false) (ha : PE X l (rdE X.K Φ Γ a)) (hb : PE X r (rdE X.K Φ Γ b)) (hc : PE X t (rdE X.K Φ Γ c)) : PT X (.Compare l [o, p] [r, t] pos) (rdT X.K Φ Γ (.chn o p a b c)) := by
  refine PT_imp (pt_chain (op_cmpF o at_.hu) (op_cmpF p at_.hu) ha hb hc hm) fun σ H Q ⟨W, env, S, a', S', k, wd, re, e, et, q⟩ => ?_
  refine chn_t wd re e fun W' k' H' le wd' ek => ⟨k', rfl, ?_⟩
  subst ek
  have : k' = k := Option.some.inj et
  subst this
  exact q W' H' le wd'
theorem c_not {a : Ex} {l : Expr} {pos : Pos} (ha : PE X l (rdE X.K Φ Γ a)) : PE X (.UnaryOp .Not l pos) (rdE X.K Φ Γ (.not a)) := by
  refine PE_imp (pe_notT ha) fun σ H Q ⟨W, env, S, a', S', wd, re, e, q⟩ => ?_
  simp only [ev] at e
  split at e
  · cases e
  · rename_i x S1 e1
    cases e2 : tru S1 x with
    | none =>
      rw [e2] at e
      cases e
    | some k =>
      rw [e2] at e
      cases e
      exact ⟨W, env, S, x, _, wd, re, e1, fun W1 v1 H1 le1 wd1 r1 => ⟨k, tru_V wd1 r1 e2, q W1 _ H1 le1 wd1 (.bl _)⟩⟩
theorem c_notT {a : Ex} {l : Expr} {pos : Pos} (ha : PT X l (rdT X.K Φ Γ a)) : PT X (.UnaryOp .Not l pos) (rdT X.K Φ Γ (.not a)) := by
  refine PT_imp (pt_not ha) fun σ H Q ⟨W, env, S, a', S', k, wd, re, e, et, q⟩ => ?_
  simp only [ev] at e
  split at e
  · cases e
  · rename_i x S1 e1
    cases e2 : tru S1 x with
    | none =>
      rw [e2] at e
      cases e
    | some k' =>
      rw [e2] at e
      cases e
      have : (!k') = k := Option.some.inj et
      subst this
      exact ⟨W, env, S, x, _, k', wd, re, e1, e2, fun W1 H1 le1 wd1 => q W1 H1 le1 wd1⟩
theorem c_ite {t a b : Ex} {z x y : Expr} {pos : Pos} (ht : PT X z (rdT X.K Φ Γ t)) (ha : PE X x (rdE X.K Φ Γ a)) (hb : PE X y (rdE X.K Φ Γ b)) : PE X (.IfExp z x y pos) (rdE X.K Φ Γ (.ite t a b)) := by
  refine PE_imp (pe_ifExp ht ha hb) fun σ H Q ⟨W, env, S, a', S', wd, re, e, q⟩ => ?_
  simp only [ev] at e
  split at e
  · cases e
  · rename_i c S1 e1
    split at e
    · cases e
    · rename_i e2
      exact ⟨W, env, S, c, S1, true, wd, re, e1, e2, fun W1 H1 le1 wd1 => iteT ⟨W1, env, S1, a', S', wd1, re.le le1, e, fun W' v H' l => q W' v H' (le1.trans l)⟩⟩
    · rename_i e2
      exact ⟨W, env, S, c, S1, false, wd, re, e1, e2, fun W1 H1 le1 wd1 => iteF ⟨W1, env, S1, a', S', wd1, re.le le1, e, fun W' v H' l => q W' v H' (le1.trans l)⟩⟩
theorem c_ix {a b : Ex} {l r : Expr} {pos : Pos} (hs : notSl r = true) (ha : PE X l (rdE X.K Φ Γ a)) (hb : PE X r (rdE X.K Φ Γ b)) : PE X (.Subscript l r pos) (rdE X.K Φ Γ (.ix a b)) := by
  have hu' : X.A.units + 1 < cLine := by have := at_.hu; omega
  refine PE_imp (pe_ix (ix_F hu') ha hb (plainIx_of hs)) fun σ H Q ⟨W, env, S, a', S', wd, re, e, q⟩ => ?_
  simp only [ev] at e
  split at e
  · cases e
  · rename_i x S1 e1
    split at e
    · cases e
    · rename_i y S2 e2
      cases e3 : ixF x y S2 with
      | none =>
        rw [e3] at e
        cases e
      | some c =>
        rw [e3] at e
        cases e
        exact ⟨W, env, S, x, S1, wd, re, e1, fun W1 v1 H1 le1 wd1 r1 => ⟨W1, env, S1, y, _, wd1, re.le le1, e2, fun W2 v2 H2 le2 wd2 r2 => ⟨W2, _, x, y, _, wd2, r1.le le2, r2, e3, fun W' v H' l => q W' v H' ((le1.trans le2).trans l)⟩⟩⟩
theorem c_slc {a : Ex} {lo hi : Exs} {x : Expr} {l h : Option Expr} {p2 pos : Pos} (ha : PE X x (rdE X.K Φ Γ a)) (hl : PO X l (rdO X.K Φ Γ lo)) (hh : PO X h (rdO X.K Φ Γ hi)) : PE X (.Subscript x (.Slice l h none p2) pos) (rdE X.K Φ Γ (.slc a lo hi)) := by
  refine PE_imp (pe_slice sl_F ha hl hh) fun σ H Q ⟨W, env, S, a', S', wd, re, e, q⟩ => ?_
  simp only [ev] at e
  split at e
  · cases e
  · rename_i y S1 e1
    split at e
    · cases e
    · rename_i ol S2 e2
      split at e
      · cases e
      · rename_i oh S3 e3
        split at e
        · cases e
        · rename_i dy e4
          cases e5 : slcD dy ol oh with
          | none =>
            rw [e5] at e
            cases e
          | some c =>
            rw [e5] at e
            cases e
            exact ⟨W, env, S, y, S1, wd, re, e1, fun W1 v1 H1 le1 wd1 r1 => ⟨W1, env, S1, ol, S2, wd1, re.le le1, e2, fun W2 H2 le2 wd2 => ⟨W2, env, S2, oh, _, wd2, (re.le le1).le le2, e3, fun W3 H3 le3 wd3 =>
              ⟨W3, _, y, dy, _, wd3, (r1.le le2).le le3, e4, e5, fun W' v H' l => q W' v H' (((le1.trans le2).trans le3).trans l)⟩⟩⟩⟩
theorem c_call {f : Nat} {es : Exs} {x : Str} {xs : List Expr} {p pos : Pos} {sc : Scope} {ow : Str → Bool} (h1 : nm.fn[f]? = some (x, xs.length)) (h2 : isGl X.env.scope x = true) (h3 : plainNm x = true) (hs : allSt xs = true) (ha : agEs nm X.N sc ow es xs = true) (hp : PA X xs (rdA X.K Φ Γ es)) :
    PE X (.Call (.Name x p) xs [] pos) (rdE X.K Φ Γ (.call f es)) := by
  obtain ⟨m, fA, fd, ps, g1, g2, g3, g4, g5⟩ := at_.fns f x _ h1
  obtain ⟨_, p2, _⟩ := plainNm_ok h3
  have key : ∀ σ H Q, rdE X.K Φ Γ (.call f es) σ H Q → tCall (spF X.K xs.length m) [] E0 (rdA X.K Φ Γ es) σ H Q := fun σ H Q ⟨W, env, S, a', S', wd, re, e, q⟩ => by
    simp only [ev] at e
    split at e
    · cases e
    · rename_i as S1 e1
      rw [g1] at e
      simp only at e
      split at e
      · cases e
      · rename_i r S2 e2
        cases e
        refine ⟨W, env, S, as, S1, wd, re, e1, fun W1 vs H1 le1 wd1 ra1 => ?_⟩
        show spF X.K xs.length m (vs ++ []) H1 Q E0
        rw [List.append_nil]
        refine ⟨by rw [ra1.length, evs_len at_ e1 ha], W1, S1, as, _, S2, wd1, ra1, e2, fun W2 v H2 le2 wd2 r2 => ?_⟩
        obtain ⟨W3, le3, wd3, r3⟩ := Wd.gc (S1 := S1) wd1.len le2 wd2 r2
        exact q W3 v H2 (le1.trans le3) wd3 r3
  cases xs with
  | nil =>
    refine PE_imp (pe_call0 (E := E0) g4 at_.room (isGl_ok h2) g2 g3 g5 .nil pass0 p2) fun σ H Q h => ?_
    obtain ⟨W, env, S, as, S1, wd, re, e1, k⟩ := key σ H Q h
    cases es with
    | nil =>
      simp only [evs] at e1
      cases e1
      exact k W [] H (.refl W) wd .nil
    | cons e es => simp [agEs] at ha
  | cons y ys =>
    simp only [allSt, Bool.and_eq_true] at hs
    exact PE_imp (pe_call (E := E0) g4 at_.room (isGl_ok h2) g2 g3 g5 .nil pass0 hp p2 (star_of hs.1 _ _) (back_of _ _ hs.2)) key
/-! dicts -/
theorem c_dnewN {pos : Pos} : PE X (.Dict [] [] pos) (rdND X.K Φ Γ .dnew) := by
  refine PE_imp pe_dnewK fun σ H Q ⟨W, env, S, kvs, S', wd, re, e, q⟩ => ?_
  simp only [ev] at e
  cases e
  exact fun p hn => q W p [] _ (.refl W) (wd.junk hn) (wd.freeF hn) (wd.notin hn) (wd.freeG hn) upd_same .nil
theorem c_d1N {k e : Ex} {x y : Expr} {pos : Pos} (hk : PE X x (rdE X.K Φ Γ k)) (he : PE X y (rdE X.K Φ Γ e)) : PE X (.Dict [some x] [y] pos) (rdND X.K Φ Γ (.d1 k e)) := by
  refine PE_imp (pe_disp (pps_cons hk he pps_nil) rfl rfl (by simp) (by show 1 ≤ 15; decide)) fun σ H Q ⟨W, env, S, kvs, S', wd, re, e1, q⟩ => ?_
  simp only [ev] at e1
  split at e1
  · rename_i kx S1 ek
    split at e1
    · cases e1
    · rename_i a S2 ea
      split at e1
      · rename_i v S3 ez
        split at e1
        · rename_i hkx
          cases e1
          obtain ⟨ky, hky⟩ := Option.isSome_iff_exists.mp hkx
          intro p hn
          have wj : Wd X.K ⟨W.F, W.ρ, upd W.G p (.dK []), W.L⟩ (upd H p (.dK [])) S := (wd.junk hn).watch upd_same (wd.freeF hn) (wd.notin hn)
          refine ⟨_, env, S, _, S1, wj, re.lx ⟨fun _ _ z => z, ⟨[], by simp⟩, fun _ _ z => z⟩, ek, fun W1 v1 H1 le1 wd1 r1 => ?_⟩
          refine ⟨W1, env, S1, a, S2, wd1, re.lx ⟨fun a u z => le1.F a u z, le1.x.ρ, fun a u z => le1.L a u z⟩, ea, fun W2 v2 H2 le2 wd2 r2 => ?_⟩
          obtain ⟨W3, le3, eρ, wd3, r3⟩ := wd2.frz r2 ez
          have g3 : W3.G = upd W.G p (.dK []) := (le3.G.trans le2.G).trans le1.G
          obtain ⟨f0, f1, f2⟩ := wd3.gu p (.dK []) (by rw [g3, upd_same])
          have ek1 := keyD_kV hky r1
          subst ek1
          refine ⟨f0, [(ky, v2)], rfl, by show 1 ≤ 15; exact Nat.le_of_ble_eq_true rfl, ?_⟩
          have nG : W.G p = none := wd.freeG hn
          have lx : Lx W W3 := ⟨fun a u z => le3.F a u (le2.F a u (le1.F a u z)), (le1.x.trans (le2.x.trans le3.x)).ρ, fun a u z => le3.L a u (le2.L a u (le1.L a u z))⟩
          have wd4 : Wd X.K ⟨W3.F, W3.ρ, W.G, W3.L⟩ H2 _ := wd3.unwatch (G := W.G) fun a u z => by
            rw [g3, upd_ne (ne_of_none (H := W.G) z nG)]
            exact z
          refine q ⟨W3.F, W3.ρ, W.G, W3.L⟩ p _ _ ⟨lx.F, lx.ρ, rfl, lx.L⟩ (wd4.heap fun b => ?_) f1 f2 nG upd_same ?_
          · by_cases hb : b = p
            · subst hb
              exact .inr ⟨f1, f2, nG, wd4.notL f0 rfl⟩
            · exact .inl (upd_ne hb)
          · exact .cons hky r3 .nil
        · cases e1
      · cases e1
  · cases e1
theorem isD_of {W : Wo} {H : Hp} {S : Sto} {v : V} {a : A} {kvs : List (PyData × PyData)} (wd : Wd X.K W H S) (r : Ra X.K W v a) (e : deref S a = some (.dict kvs)) : ∃ p, v = .ref p ∧ IsD H p := by
  obtain ⟨p, vs, rfl, h1, _⟩ := (wd.deref r e).dict wd.sub
  exact ⟨p, rfl, .inl ⟨vs, h1⟩⟩
theorem getd_of {W : Wo} {H : Hp} {S : Sto} {a : A} {d x : PyData} {y : V} {r : Option PyData} {p : Addr} (wd : Wd X.K W H S) (ra : Ra X.K W (.ref p) a) (e : deref S a = some d) (rx : Ra X.K W y (.d x)) (eg : getdD d x = some r) :
    ∃ o, DGet H p y o ∧ ((r = none ∧ o = none) ∨ ∃ z w, r = some z ∧ o = some w ∧ Rp X.K W.F w z) := by
  unfold getdD at eg
  split at eg
  · rename_i kvs
    split at eg
    · rename_i hk
      cases eg
      obtain ⟨k, hk⟩ := Option.isSome_iff_exists.mp hk
      obtain ⟨p', vs, ep, h1, r1⟩ := (wd.deref ra e).dict wd.sub
      cases ep
      have ey := keyD_kV hk rx
      subst ey
      refine ⟨valV vs k, .inl ⟨vs, k, h1, rfl, rfl⟩, ?_⟩
      rcases r1.get hk with ⟨g1, g2⟩ | ⟨w, z, g1, g2, g3⟩
      · exact .inl ⟨g1, g2⟩
      · exact .inr ⟨z, w, g1, g2, g3⟩
    · cases eg
  · cases eg
theorem m1_of {o e : Expr} {m : Str} {p1 p2 : Pos} (hb : notCall o = true) (hs : notSt e = true) (hl : (p1.endLine == p2.line) = true) : M1 X o m p1 e p2 :=
  ⟨(by cases o <;> first | rfl | cases hb), by rw [star_of hs]; rfl, hl, by rw [star_of hs]; rfl⟩
theorem m2_of {o e f : Expr} {m : Str} {p1 p2 : Pos} (hb : notCall o = true) (hs : notSt e = true) (hs2 : notSt f = true) (hl : (p1.endLine == p2.line) = true) : M2 X o m p1 e f p2 :=
  ⟨(by cases o <;> first | rfl | cases hb), by rw [star_of hs, star_of hs2]; rfl, hl, by rw [star_of hs, star_of hs2]; rfl⟩
theorem c_dget {o k : Ex} {x y : Expr} {p1 p2 : Pos} (hb : notCall x = true) (hs : notSt y = true) (hl : (p1.endLine == p2.line) = true) (ho : PE X x (rdE X.K Φ Γ o)) (hk : PE X y (rdE X.K Φ Γ k)) : PE X (.Call (.Attribute x "get" p1) [y] [] p2) (rdE X.K Φ Γ (.dget o k)) := by
  have hu : X.A.units + 1 < cLine := by have := at_.hu; omega
  refine PE_imp (pe_dget1 hu ho hk (m1_of at_ hb hs hl)) fun σ H Q ⟨W, env, S, a', S', wd, re, e, q⟩ => ?_
  simp only [ev] at e
  split at e
  · cases e
  · rename_i a S1 e1
    split at e
    · rename_i kvs ed
      split at e
      · rename_i kx S2 e2
        split at e
        · rename_i d e3
          cases eg : getdD d kx with
          | none =>
            rw [eg] at e
            cases e
          | some r =>
            rw [eg] at e
            cases e
            refine ⟨W, env, S, a, S1, wd, re, e1, fun W1 v1 H1 le1 wd1 r1 => ?_⟩
            obtain ⟨p, rfl, hd⟩ := isD_of at_ wd1 r1 ed
            refine ⟨p, rfl, hd, W1, env, S1, _, S', wd1, re.le le1, e2, fun W2 v2 H2 le2 wd2 r2 => ?_⟩
            obtain ⟨ov, g1, g2⟩ := getd_of at_ wd2 (r1.le le2) e3 r2 eg
            refine ⟨ov, g1, ?_⟩
            rcases g2 with ⟨rfl, rfl⟩ | ⟨z, w, rfl, rfl, rz⟩
            · exact q W2 _ H2 (le1.trans le2) wd2 .non
            · exact q W2 _ H2 (le1.trans le2) wd2 rz
        · cases e
      · cases e
    · cases e
theorem c_dgetd {o k f : Ex} {x y z : Expr} {p1 p2 : Pos} (hb : notCall x = true) (hs : notSt y = true) (hs2 : notSt z = true) (hl : (p1.endLine == p2.line) = true) (ho : PE X x (rdE X.K Φ Γ o)) (hk : PE X y (rdE X.K Φ Γ k)) (hf : PE X z (rdE X.K Φ Γ f)) : PE X (.Call (.Attribute x "get" p1) [y, z] [] p2) (rdE X.K Φ Γ (.dgetd o k f)) := by
  have hu : X.A.units + 1 < cLine := by have := at_.hu; omega
  refine PE_imp (pe_dget2 hu ho hk hf (m2_of at_ hb hs hs2 hl)) fun σ H Q ⟨W, env, S, a', S', wd, re, e, q⟩ => ?_
  simp only [ev] at e
  split at e
  · cases e
  · rename_i a S1 e1
    split at e
    · rename_i kvs ed
      split at e
      · rename_i kx S2 e2
        split at e
        · rename_i fx S3 e4
          split at e
          · rename_i d e3
            cases eg : getdD d kx with
            | none =>
              rw [eg] at e
              cases e
            | some r =>
              rw [eg] at e
              cases e
              refine ⟨W, env, S, a, S1, wd, re, e1, fun W1 v1 H1 le1 wd1 r1 => ?_⟩
              obtain ⟨p, rfl, hd⟩ := isD_of at_ wd1 r1 ed
              refine ⟨p, rfl, hd, W1, env, S1, _, S2, wd1, re.le le1, e2, fun W2 v2 H2 le2 wd2 r2 => ?_⟩
              refine ⟨W2, env, S2, _, S', wd2, (re.le le1).le le2, e4, fun W3 v3 H3 le3 wd3 r3 => ?_⟩
              obtain ⟨ov, g1, g2⟩ := getd_of at_ wd3 ((r1.le le2).le le3) e3 (r2.le le3) eg
              refine ⟨ov, g1, ?_⟩
              rcases g2 with ⟨rfl, rfl⟩ | ⟨z, w, rfl, rfl, rz⟩
              · exact q W3 _ H3 ((le1.trans le2).trans le3) wd3 r3
              · exact q W3 _ H3 ((le1.trans le2).trans le3) wd3 rz
          · cases e
        · cases e
      · cases e
    · cases e
theorem c_dpop {o k : Ex} {x y : Expr} {p1 p2 : Pos} (hb : notCall x = true) (hs : notSt y = true) (hl : (p1.endLine == p2.line) = true) (ho : PE X x (rdE X.K Φ Γ o)) (hk : PE X y (rdE X.K Φ Γ k)) : PE X (.Call (.Attribute x "pop" p1) [y] [] p2) (rdE X.K Φ Γ (.dpop o k)) := by
  refine PE_imp (pe_dpop1 ho hk (m1_of at_ hb hs hl)) fun σ H Q ⟨W, env, S, a', S', wd, re, e, q⟩ => ?_
  simp only [ev] at e
  split at e
  · cases e
  · rename_i a S1 e1
    split at e
    · rename_i kvs ed
      split at e
      · rename_i kx S2 e2
        cases eg : dpopF a kx S2 with
        | none =>
          rw [eg] at e
          cases e
        | some r =>
          rw [eg] at e
          cases e
          refine ⟨W, env, S, a, S1, wd, re, e1, fun W1 v1 H1 le1 wd1 r1 => ?_⟩
          obtain ⟨p, rfl, hd⟩ := isD_of at_ wd1 r1 ed
          refine ⟨p, rfl, hd, W1, env, S1, _, S2, wd1, re.le le1, e2, fun W2 v2 H2 le2 wd2 r2 => ?_⟩
          unfold dpopF at eg
          split at eg
          · rename_i n
            split at eg
            · rename_i ks en
              split at eg
              · rename_i hkx
                obtain ⟨ky, hky⟩ := Option.isSome_iff_exists.mp hkx
                obtain ⟨p', gρ, ep⟩ := r1.le le2
                cases ep
                obtain ⟨vs, h1, h2, h3⟩ := wd2.ob n p _ gρ en
                have hp : H2 p = some (.dK vs) := by
                  rcases h1 with h1 | ⟨z, _⟩
                  · exact h1
                  · rcases z with z | z <;> cases z
                have nF : W2.F p = none := by simpa using h3
                have ev2 := keyD_kV hky r2
                subst ev2
                rcases h2.get hky with ⟨g1, _⟩ | ⟨w, z, g1, g2, g3⟩
                · rw [g1] at eg
                  cases eg
                · rw [g1] at eg
                  cases eg
                  exact ⟨vs, ky, w, hp, rfl, g2, q W2 _ _ (le1.trans le2) (wd2.write gρ nF (wd2.notL hp rfl) ⟨dropK vs ky, .inl upd_same, h2.drop hky, by simpa using nF⟩) g3⟩
              · cases eg
            · cases eg
          · cases eg
      · cases e
    · cases e
end
end PV

/-! PV13: the soundness of expressions, further cases, and all of them. -/
namespace PV
open PySem PySem.Spec PyProof.Rows L2
theorem boot_any' : bootBuiltins (Str.ofString "any") = some (.builtin "any") := by decide +kernel
section
variable {nm : Nm} {Φ : List Fs} {Γ : List PyData} {lv : Nat} {X : Cx} (at_ : At nm Φ Γ lv X)
include at_
theorem blt_key {b : Bl} {es : Exs} : ∀ σ H Q, rdE X.K Φ Γ (.blt b es) σ H Q → tCB (rL X.K (bltF b)) (rdA X.K Φ Γ es) σ H Q := fun σ H Q ⟨W, env, S, a, S', wd, re, e, q⟩ => by
  simp only [ev] at e
  split at e
  · cases e
  · rename_i as S1 e1
    cases e2 : bltF b as S1 with
    | none =>
      rw [e2] at e
      cases e
    | some c =>
      rw [e2] at e
      cases e
      exact ⟨W, env, S, as, _, wd, re, e1, fun W1 vs H1 le1 wd1 ra1 => ⟨W1, _, as, _, wd1, ra1, e2, fun W' v H' l => q W' v H' (le1.trans l)⟩⟩
theorem c_blt {b : Bl} {es : Exs} {y : Expr} {ys : List Expr} {p pos : Pos} (h2 : isGl X.env.scope b.nm = true) (h1 : notSt y = true) (hs : allSt ys = true) (hp : PA X (y :: ys) (rdA X.K Φ Γ es)) : PE X (.Call (.Name b.nm p) (y :: ys) [] pos) (rdE X.K Φ Γ (.blt b es)) := by
  have hc := bl_ok (X := X) b at_.calm at_.hu
  have st := star_of (e := y) h1 ys X.env
  have bk := back_of (es := ys) pos X.env hs
  refine PE_imp ?_ (blt_key at_)
  cases b with
  | len => exact pe_callB hc (isGl_ok h2) (at_.blt _ (by decide)) (by decide +kernel) hp (by decide) (by decide) st bk
  | sum => exact pe_callB hc (isGl_ok h2) (at_.blt _ (by decide)) (by decide +kernel) hp (by decide) (by decide) st bk
  | mn => exact pe_callB hc (isGl_ok h2) (at_.blt _ (by decide)) (by decide +kernel) hp (by decide) (by decide) st bk
  | mx => exact pe_callB hc (isGl_ok h2) (at_.blt _ (by decide)) (by decide +kernel) hp (by decide) (by decide) st bk
  | any => exact pe_callB hc (isGl_ok h2) (at_.blt _ (by decide)) (by decide +kernel) hp (by decide) (by decide) st bk
  | all => exact pe_callB hc (isGl_ok h2) (at_.blt _ (by decide)) (by decide +kernel) hp (by decide) (by decide) st bk
  | sorted => exact pe_callB hc (isGl_ok h2) (at_.blt _ (by decide)) (by decide +kernel) hp (by decide) (by decide) st bk
  | list => exact pe_callTy hc (isGl_ok h2) (at_.blt _ (by decide)) (by decide +kernel) hp (by decide) (by decide) st bk
  | tuple => exact pe_callTy hc (isGl_ok h2) (at_.blt _ (by decide)) (by decide +kernel) hp (by decide) (by decide) st bk
  | int => exact pe_callTy hc (isGl_ok h2) (at_.blt _ (by decide)) (by decide +kernel) hp (by decide) (by decide) st bk
  | abs => exact pe_callB hc (isGl_ok h2) (at_.blt _ (by decide)) (by decide +kernel) hp (by decide) (by decide) st bk
  | dict => exact pe_callTy hc (isGl_ok h2) (at_.blt _ (by decide)) (by decide +kernel) hp (by decide) (by decide) st bk
omit at_ in
/-- what list and sorted make is new -/
theorem new_ok (b : Bl) (hb : b = .list ∨ b = .sorted) (hc : X.calm = true) (hu : X.A.units + 65 < cLine) : CallR X (blV b) (fun vs H Q => ∃ W S as ds, Wd X.K W H S ∧ RaA X.K W vs as ∧ bltF b as S = some (.d (.list ds)) ∧ KtN X.K W S ds Q) := by
  intro pins s σ H vs us Q I r ⟨W, S, as, ds, wd, ra, e, q⟩
  have fin : ∀ {p : Addr} {ws : List V}, H p = none → RpA X.K W.F ws ds → Q (.ref p) (upd H p (.lst ws)) := fun hn r => q W _ _ _ (.refl W) (wd.junk hn) (wd.freeF hn) (wd.notin hn) (wd.freeG hn) upd_same r
  unfold bltF at e
  split at e
  · rename_i a
    obtain ⟨v, rfl, ra1⟩ : ∃ v, vs = [v] ∧ Ra X.K W v a := by
      cases ra with
      | cons r1 t =>
        cases t
        exact ⟨_, rfl, r1⟩
    split at e
    · rename_i ns
      split at e
      · cases e
        obtain ⟨p, rfl, hq⟩ := ra1
        refine call_list_of pins s σ H _ us Q I r ⟨p, _, rfl, .inl (wd.sub.seqL hq), fun l hl => fin hl ?_⟩
        clear hq q r ra fin
        induction ns with
        | nil => exact .nil
        | cons n ns ih => exact .cons (.int n) ih
      · cases e
    · cases hda : deref S a with
      | none =>
        rw [hda] at e
        cases e
      | some x =>
        have px := wd.deref ra1 hda
        cases eb : bltD b x with
        | none =>
          simp only [hda, Option.bind_some, eb, Option.map_none] at e
          cases e
        | some d =>
          simp only [hda, Option.bind_some, eb, Option.map_some] at e
          cases e
          exact nw_ok b (hb.elim .inl fun z => .inr (.inl z)) hc hu I r wd px eb (fun p ws ds e hn rz => by cases e; exact fin hn rz) (fun p ws ds e hn rz => by cases e)
  · rcases hb with rfl | rfl <;> cases e
  · cases e
omit at_ in
theorem newD_ok (hc : X.calm = true) (hu : X.A.units + 65 < cLine) : CallR X (blV .dict) (fun vs H Q => ∃ W S as ds, Wd X.K W H S ∧ RaA X.K W vs as ∧ bltF .dict as S = some (.d (.dict ds)) ∧ KtND X.K W S ds Q) := by
  intro pins s σ H vs us Q I r ⟨W, S, as, ds, wd, ra, e, q⟩
  have fin : ∀ {p : Addr} {ws : List (Key × V)}, H p = none → RpK X.K W.F ws ds → Q (.ref p) (upd H p (.dK ws)) := fun hn r => q W _ _ _ (.refl W) (wd.junk hn) (wd.freeF hn) (wd.notin hn) (wd.freeG hn) upd_same r
  unfold bltF at e
  split at e
  · rename_i a
    obtain ⟨v, rfl, ra1⟩ : ∃ v, vs = [v] ∧ Ra X.K W v a := by
      cases ra with
      | cons r1 t =>
        cases t
        exact ⟨_, rfl, r1⟩
    split at e
    · cases e
    · cases hda : deref S a with
      | none =>
        rw [hda] at e
        cases e
      | some x =>
        have px := wd.deref ra1 hda
        cases eb : bltD .dict x with
        | none =>
          simp only [hda, Option.bind_some, eb, Option.map_none] at e
          cases e
        | some d =>
          simp only [hda, Option.bind_some, eb, Option.map_some] at e
          cases e
          exact nw_ok .dict (.inr (.inr rfl)) hc hu I r wd px eb (fun p ws ds e hn rz => by cases e) (fun p ws ds e hn rz => by cases e; exact fin hn rz)
  · cases e
  · cases e
theorem c_bltND {es : Exs} {y : Expr} {ys : List Expr} {p pos : Pos} (h2 : isGl X.env.scope "dict" = true) (h1 : notSt y = true) (hs : allSt ys = true) (hp : PA X (y :: ys) (rdA X.K Φ Γ es)) : PE X (.Call (.Name "dict" p) (y :: ys) [] pos) (rdND X.K Φ Γ (.blt .dict es)) := by
  have hc := newD_ok (X := X) at_.calm at_.hu
  have st := star_of (e := y) h1 ys X.env
  have bk := back_of (es := ys) pos X.env hs
  have key : ∀ σ H Q, rdND X.K Φ Γ (.blt .dict es) σ H Q → tCB (fun vs H Q => ∃ W S as ds, Wd X.K W H S ∧ RaA X.K W vs as ∧ bltF .dict as S = some (.d (.dict ds)) ∧ KtND X.K W S ds Q) (rdA X.K Φ Γ es) σ H Q := fun σ H Q ⟨W, env, S, a, S', wd, re, e, q⟩ => by
    simp only [ev] at e
    split at e
    · cases e
    · rename_i as S1 e1
      cases e2 : bltF .dict as S1 with
      | none =>
        rw [e2] at e
        cases e
      | some c =>
        rw [e2] at e
        cases e
        exact ⟨W, env, S, as, _, wd, re, e1, fun W1 vs H1 le1 wd1 ra1 => ⟨W1, _, as, _, wd1, ra1, e2, fun W' p vs H' l => q W' p vs H' (le1.trans l)⟩⟩
  exact PE_imp (pe_callTy hc (isGl_ok h2) (at_.blt _ (by decide)) (by decide +kernel) hp (by decide) (by decide) st bk) key
theorem c_bltN {b : Bl} {es : Exs} {y : Expr} {ys : List Expr} {p pos : Pos} (hb : b = .list ∨ b = .sorted) (h2 : isGl X.env.scope b.nm = true) (h1 : notSt y = true) (hs : allSt ys = true) (hp : PA X (y :: ys) (rdA X.K Φ Γ es)) : PE X (.Call (.Name b.nm p) (y :: ys) [] pos) (rdN X.K Φ Γ (.blt b es)) := by
  have hc := new_ok (X := X) b hb at_.calm at_.hu
  have st := star_of (e := y) h1 ys X.env
  have bk := back_of (es := ys) pos X.env hs
  have key : ∀ σ H Q, rdN X.K Φ Γ (.blt b es) σ H Q → tCB (fun vs H Q => ∃ W S as ds, Wd X.K W H S ∧ RaA X.K W vs as ∧ bltF b as S = some (.d (.list ds)) ∧ KtN X.K W S ds Q) (rdA X.K Φ Γ es) σ H Q := fun σ H Q ⟨W, env, S, a, S', wd, re, e, q⟩ => by
    simp only [ev] at e
    split at e
    · cases e
    · rename_i as S1 e1
      cases e2 : bltF b as S1 with
      | none =>
        rw [e2] at e
        cases e
      | some c =>
        rw [e2] at e
        cases e
        exact ⟨W, env, S, as, _, wd, re, e1, fun W1 vs H1 le1 wd1 ra1 => ⟨W1, _, as, _, wd1, ra1, e2, fun W' p vs H' l => q W' p vs H' (le1.trans l)⟩⟩
  refine PE_imp ?_ key
  rcases hb with rfl | rfl
  · exact pe_callTy hc (isGl_ok h2) (at_.blt _ (by decide)) (by decide +kernel) hp (by decide) (by decide) st bk
  · exact pe_callB hc (isGl_ok h2) (at_.blt _ (by decide)) (by decide +kernel) hp (by decide) (by decide) st bk

/-! ### isinstance -/
omit at_ in
theorem clsV_of (t : Ty) : ClsV (.ty t.nm) (.type t.nm) := by cases t <;> exact .ty _
omit at_ in
theorem paired_cls : ∀ ts : List Ty, Paired ClsV (ts.map fun t => V.ty t.nm) (ts.map fun t => Value.type t.nm)
  | [] => .nil
  | t :: ts => .cons (clsV_of t) (paired_cls ts)
theorem ty_pe {t : Ty} {e : Expr} (h : tyNm X.env.scope t e = true) : PE X e (tC (.ty t.nm)) := by
  unfold tyNm at h
  split at h
  · simp only [Bool.and_eq_true, decide_eq_true_eq] at h
    obtain ⟨rfl, h⟩ := h
    have g := isGl_ok h
    cases t <;> exact pe_bltn g (at_.blt _ (by decide)) (by decide +kernel) rfl (by decide) (by decide)
  · cases h
theorem tys_pa : ∀ {ts : List Ty} {es : List Expr}, tyNms X.env.scope ts es = true → PA X es (fun _ H Q => Q (ts.map fun t => V.ty t.nm) H)
  | [], [], _ => PA_imp pa_nil fun _ _ _ h => h
  | [], _ :: _, h => by cases h
  | _ :: _, [], h => by cases h
  | t :: ts, e :: es, h => by
    simp only [tyNms, Bool.and_eq_true] at h
    have st : starEach (e :: es) X.env = (false, eval e X.env) :: starEach es X.env := by
      have := h.1
      unfold tyNm at this
      split at this
      · rfl
      · cases this
    exact PA_imp (pa_cons (ty_pe at_ h.1) (tys_pa h.2) st) fun σ H Q q => q
theorem c_isi1 {a : Ex} {t : Ty} {y z : Expr} {p pos : Pos} (h2 : isGl X.env.scope "isinstance" = true) (s1 : notSt y = true) (ha : PE X y (rdE X.K Φ Γ a)) (ht : tyNm X.env.scope t z = true) : PE X (.Call (.Name "isinstance" p) [y, z] [] pos) (rdE X.K Φ Γ (.isi a [t])) := by
  have s2 : notSt z = true := by
    unfold tyNm at ht
    split at ht
    · rfl
    · cases ht
  have pa := pa_cons ha (pa_cons (ty_pe at_ ht) pa_nil (star_of s2 _ _)) (star_of s1 _ _)
  refine PE_imp (pe_callB call_isi (isGl_ok h2) (at_.blt _ (by decide)) (by decide +kernel) pa (by decide) (by decide) (star_of s1 _ _) (back_of _ _ (by simp [allSt, s2]))) fun σ H Q ⟨W, env, S, a', S', wd, re, e, q⟩ => ?_
  simp only [ev] at e
  split at e
  · cases e
  · rename_i x S1 e1
    split at e
    · cases e
    · cases e
    · rename_i _ d hnd e2
      cases e
      refine ⟨W, env, S, x, _, wd, re, e1, fun W1 v1 H1 le1 wd1 r1 => ?_⟩
      refine ⟨v1, .ty t.nm, .type (tyOf d), .type t.nm, typeOk d t, rfl, clsV_of t, ty_x wd1.sub (wd1.deref r1 e2) (fun z hz => hnd z (by rw [hz])), kit_tab d t, ?_⟩
      have := q W1 (.bl (typeOk d t)) H1 le1 wd1 (by
        show Rp X.K W1.F _ (.bool ([t].any fun t => typeOk d t))
        rw [show ([t].any fun t => typeOk d t) = typeOk d t by simp]
        exact .bl _)
      exact this
theorem c_isiT {a : Ex} {ts : List Ty} {y : Expr} {zs : List Expr} {k : Nat} {pz p pos : Pos} (h2 : isGl X.env.scope "isinstance" = true) (s1 : notSt y = true) (ha : PE X y (rdE X.K Φ Γ a)) (ht : tyNms X.env.scope ts zs = true) (hl : ts.length ≤ 1000) : PE X (.Call (.Name "isinstance" p) [y, .Tuple zs k pz] [] pos) (rdE X.K Φ Γ (.isi a ts)) := by
  have pa := pa_cons ha (pa_cons (pe_tup (x1 := k) (pos := pz) (tys_pa at_ ht)) pa_nil) (star_of s1 _ _)
  refine PE_imp (pe_callB call_isiT (isGl_ok h2) (at_.blt _ (by decide)) (by decide +kernel) pa (by decide) (by decide) (star_of s1 _ _) (back_of _ _ rfl)) fun σ H Q ⟨W, env, S, a', S', wd, re, e, q⟩ => ?_
  simp only [ev] at e
  split at e
  · cases e
  · rename_i x S1 e1
    split at e
    · cases e
    · cases e
    · rename_i _ d hnd e2
      cases e
      refine ⟨W, env, S, x, _, wd, re, e1, fun W1 v1 H1 le1 wd1 r1 => ⟨by rw [List.length_map]; exact Nat.le_of_lt (small1000 hl), fun tp hn => ?_⟩⟩
      have wd2 := wd1.junk (u := .tup (ts.map fun t => V.ty t.nm)) hn
      exact ⟨v1, tp, ts.map fun t => V.ty t.nm, .type (tyOf d), ts.map fun t => Value.type t.nm, _, rfl, upd_same, paired_cls ts, ty_x wd2.sub (wd2.deref r1 e2) (fun z hz => hnd z (by rw [hz])), kit_any d ts, q W1 _ _ le1 wd2 (.bl _)⟩
end
end PV

/-! PV14: the soundness of expressions: all of them. -/
namespace PV
open PySem PySem.Spec PyProof.Rows L2
section
variable {nm : Nm} {Φ : List Fs} {Γ : List PyData} {lv : Nat} {X : Cx} (at_ : At nm Φ Γ lv X)
include at_
omit at_ in
theorem a_nil : PA X [] (rdA X.K Φ Γ .nil) := by
  refine PA_imp pa_nil fun σ H Q ⟨W, env, S, as, S', wd, re, e, q⟩ => ?_
  simp only [evs] at e
  cases e
  exact q W [] H (.refl W) wd .nil
omit at_ in
theorem a_cons {e : Ex} {es : Exs} {x : Expr} {xs : List Expr} (hs : notSt x = true) (h1 : PE X x (rdE X.K Φ Γ e)) (h2 : PA X xs (rdA X.K Φ Γ es)) : PA X (x :: xs) (rdA X.K Φ Γ (.cons e es)) := by
  refine PA_imp (pa_cons h1 h2 (star_of hs _ _)) fun σ H Q ⟨W, env, S, as, S', wd, re, e, q⟩ => ?_
  simp only [evs] at e
  split at e
  · cases e
  · rename_i a S1 e1
    split at e
    · cases e
    · rename_i as' S2 e2
      cases e
      exact ⟨W, env, S, a, S1, wd, re, e1, fun W1 v1 H1 le1 wd1 r1 => ⟨W1, env, S1, as', _, wd1, re.le le1, e2, fun W2 vs H2 le2 wd2 r2 => q W2 _ H2 (le1.trans le2) wd2 (.cons (r1.le le2) r2)⟩⟩
omit at_ in
theorem and_one {e : Ex} {x : Expr} {pos : Pos} (h : PE X x (rdE X.K Φ Γ e)) : PE X (.BoolOp .And [x] pos) (rdAnd X.K Φ Γ (.cons e .nil)) := by
  refine PE_imp (pe_one h) fun σ H Q ⟨W, env, S, a, S', wd, re, e, q⟩ => ?_
  simp only [evAnd, Exs.isNil, if_true] at e
  split at e
  · cases e
  · rename_i e1
    cases e
    exact ⟨W, env, S, _, _, wd, re, e1, q⟩
omit at_ in
theorem and_cons {e e' : Ex} {es : Exs} {x x' : Expr} {xs : List Expr} {pos : Pos} (h : PE X x (rdE X.K Φ Γ e)) (h2 : PE X (.BoolOp .And (x' :: xs) pos) (rdAnd X.K Φ Γ (.cons e' es))) : PE X (.BoolOp .And (x :: x' :: xs) pos) (rdAnd X.K Φ Γ (.cons e (.cons e' es))) := by
  refine PE_imp (pe_andT h h2) fun σ H Q ⟨W, env, S, a, S', wd, re, e, q⟩ => ?_
  rw [evAnd] at e
  simp only [Exs.isNil, Bool.false_eq_true, if_false] at e
  split at e
  · cases e
  · rename_i b S1 e1
    refine ⟨W, env, S, b, S1, wd, re, e1, fun W1 v1 H1 le1 wd1 r1 => ?_⟩
    split at e
    · cases e
    · rename_i e2
      cases e
      exact ⟨false, tru_V wd1 r1 e2, iteF (q W1 v1 H1 le1 wd1 r1)⟩
    · rename_i e2
      exact ⟨true, tru_V wd1 r1 e2, iteT ⟨W1, env, S1, a, S', wd1, re.le le1, e, fun W' v H' l => q W' v H' (le1.trans l)⟩⟩
omit at_ in
theorem or_one {e : Ex} {x : Expr} {pos : Pos} (h : PE X x (rdE X.K Φ Γ e)) : PE X (.BoolOp .Or [x] pos) (rdOr X.K Φ Γ (.cons e .nil)) := by
  refine PE_imp (pe_one h) fun σ H Q ⟨W, env, S, a, S', wd, re, e, q⟩ => ?_
  simp only [evOr, Exs.isNil, if_true] at e
  split at e
  · cases e
  · rename_i e1
    cases e
    exact ⟨W, env, S, _, _, wd, re, e1, q⟩
omit at_ in
theorem or_cons {e e' : Ex} {es : Exs} {x x' : Expr} {xs : List Expr} {pos : Pos} (h : PE X x (rdE X.K Φ Γ e)) (h2 : PE X (.BoolOp .Or (x' :: xs) pos) (rdOr X.K Φ Γ (.cons e' es))) : PE X (.BoolOp .Or (x :: x' :: xs) pos) (rdOr X.K Φ Γ (.cons e (.cons e' es))) := by
  refine PE_imp (pe_orT h h2) fun σ H Q ⟨W, env, S, a, S', wd, re, e, q⟩ => ?_
  rw [evOr] at e
  simp only [Exs.isNil, Bool.false_eq_true, if_false] at e
  split at e
  · cases e
  · rename_i b S1 e1
    refine ⟨W, env, S, b, S1, wd, re, e1, fun W1 v1 H1 le1 wd1 r1 => ?_⟩
    split at e
    · cases e
    · rename_i e2
      cases e
      exact ⟨true, tru_V wd1 r1 e2, iteT (q W1 v1 H1 le1 wd1 r1)⟩
    · rename_i e2
      exact ⟨false, tru_V wd1 r1 e2, iteF ⟨W1, env, S1, a, S', wd1, re.le le1, e, fun W' v H' l => q W' v H' (le1.trans l)⟩⟩
/-! tests -/
omit at_ in
theorem t_val {e : Ex} {x : Expr} (h : PE X x (rdE X.K Φ Γ e)) (hp : ∀ whole, isTrue x X.env whole = (do let v ← whole; standAt x.pos; holding [v] (truthy v))) : PT X x (rdT X.K Φ Γ e) := by
  refine PT_imp (pt_truth h hp) fun σ H Q ⟨W, env, S, a, S', k, wd, re, e, et, q⟩ => ?_
  exact ⟨W, env, S, a, S', wd, re, e, fun W1 v1 H1 le1 wd1 r1 => ⟨k, tru_V wd1 r1 et, q W1 H1 le1 wd1⟩⟩
omit at_ in
theorem t_and_one {e : Ex} {x : Expr} {pos : Pos} (h : PT X x (rdT X.K Φ Γ e)) : PW X (.BoolOp .And [x] pos) (rdTAnd X.K Φ Γ (.cons e .nil)) := by
  refine PW_imp (pw_and1 h) fun σ H Q ⟨W, env, S, a, S', k, wd, re, e, et, q⟩ => ?_
  simp only [evAnd, Exs.isNil, if_true] at e
  split at e
  · cases e
  · rename_i e1
    cases e
    exact ⟨W, env, S, _, _, k, wd, re, e1, et, q⟩
omit at_ in
theorem t_and_cons {e e' : Ex} {es : Exs} {x x' : Expr} {xs : List Expr} {pos : Pos} (h : PT X x (rdT X.K Φ Γ e)) (h2 : PW X (.BoolOp .And (x' :: xs) pos) (rdTAnd X.K Φ Γ (.cons e' es))) : PW X (.BoolOp .And (x :: x' :: xs) pos) (rdTAnd X.K Φ Γ (.cons e (.cons e' es))) := by
  refine PW_imp (pw_and h h2) fun σ H Q ⟨W, env, S, a, S', k, wd, re, e, et, q⟩ => ?_
  rw [evAnd] at e
  simp only [Exs.isNil, Bool.false_eq_true, if_false] at e
  split at e
  · cases e
  · rename_i b S1 e1
    split at e
    · cases e
    · rename_i e2
      cases e
      rw [e2] at et
      cases et
      exact ⟨W, env, S, _, _, false, wd, re, e1, e2, fun W1 H1 le1 wd1 => iteF (q W1 H1 le1 wd1)⟩
    · rename_i e2
      exact ⟨W, env, S, b, S1, true, wd, re, e1, e2, fun W1 H1 le1 wd1 => iteT ⟨W1, env, S1, a, S', k, wd1, re.le le1, e, et, fun W' H' l => q W' H' (le1.trans l)⟩⟩
omit at_ in
theorem t_or_one {e : Ex} {x : Expr} {pos : Pos} (h : PT X x (rdT X.K Φ Γ e)) : PW X (.BoolOp .Or [x] pos) (rdTOr X.K Φ Γ (.cons e .nil)) := by
  refine PW_imp (pw_or1 h) fun σ H Q ⟨W, env, S, a, S', k, wd, re, e, et, q⟩ => ?_
  simp only [evOr, Exs.isNil, if_true] at e
  split at e
  · cases e
  · rename_i e1
    cases e
    exact ⟨W, env, S, _, _, k, wd, re, e1, et, q⟩
omit at_ in
theorem t_or_cons {e e' : Ex} {es : Exs} {x x' : Expr} {xs : List Expr} {pos : Pos} (h : PT X x (rdT X.K Φ Γ e)) (h2 : PW X (.BoolOp .Or (x' :: xs) pos) (rdTOr X.K Φ Γ (.cons e' es))) : PW X (.BoolOp .Or (x :: x' :: xs) pos) (rdTOr X.K Φ Γ (.cons e (.cons e' es))) := by
  refine PW_imp (pw_or h h2) fun σ H Q ⟨W, env, S, a, S', k, wd, re, e, et, q⟩ => ?_
  rw [evOr] at e
  simp only [Exs.isNil, Bool.false_eq_true, if_false] at e
  split at e
  · cases e
  · rename_i b S1 e1
    split at e
    · cases e
    · rename_i e2
      cases e
      rw [e2] at et
      cases et
      exact ⟨W, env, S, _, _, true, wd, re, e1, e2, fun W1 H1 le1 wd1 => iteT (q W1 H1 le1 wd1)⟩
    · rename_i e2
      exact ⟨W, env, S, b, S1, false, wd, re, e1, e2, fun W1 H1 le1 wd1 => iteF ⟨W1, env, S1, a, S', k, wd1, re.le le1, e, et, fun W' H' l => q W' H' (le1.trans l)⟩⟩
omit at_ in
theorem t_ite {t a b : Ex} {z x y : Expr} {pos : Pos} (hz : PT X z (rdT X.K Φ Γ t)) (hx : PT X x (rdT X.K Φ Γ a)) (hy : PT X y (rdT X.K Φ Γ b)) : PT X (.IfExp z x y pos) (rdT X.K Φ Γ (.ite t a b)) := by
  refine ⟨fun pins s σ H Q I ⟨W, env, S, a', S', k, wd, re, e, et, q⟩ => ?_⟩
  simp only [ev] at e
  split at e
  · cases e
  · rename_i c S1 e1
    show wpAny _ _ (isTrue z X.env (eval z X.env) >>= _) _ _ s
    split at e
    · cases e
    · rename_i e2
      refine wpAny_bind (thn (hz.run pins s σ H (fun b H1 => b = true ∧ rdT X.K Φ Γ _ σ H1 Q) I ⟨W, env, S, c, S1, true, wd, re, e1, e2, fun W1 H1 le1 wd1 => ⟨rfl, W1, env, S1, a', S', k, wd1, re.le le1, e, et, fun W' H' l => q W' H' (le1.trans l)⟩⟩) fun d s1 ⟨H1, I1, hd, q1⟩ => ?_)
      subst hd
      exact hx.run pins s1 σ H1 Q I1 q1
    · rename_i e2
      refine wpAny_bind (thn (hz.run pins s σ H (fun b H1 => b = false ∧ rdT X.K Φ Γ _ σ H1 Q) I ⟨W, env, S, c, S1, false, wd, re, e1, e2, fun W1 H1 le1 wd1 => ⟨rfl, W1, env, S1, a', S', k, wd1, re.le le1, e, et, fun W' H' l => q W' H' (le1.trans l)⟩⟩) fun d s1 ⟨H1, I1, hd, q1⟩ => ?_)
      subst hd
      exact hy.run pins s1 σ H1 Q I1 q1
/-! parts of slices -/
omit at_ in
theorem o_nil : PO X none (rdO X.K Φ Γ .nil) := by
  refine ⟨fun pins s σ H Q I ⟨W, env, S, o, S', wd, re, e, q⟩ => ?_⟩
  simp only [evOpt] at e
  cases e
  exact po_none.run pins s σ H Q I (q W H (.refl W) wd)
omit at_ in
theorem o_one {e : Ex} {x : Expr} (h : PE X x (rdE X.K Φ Γ e)) : PO X (some x) (rdO X.K Φ Γ (.cons e .nil)) := by
  refine ⟨fun pins s σ H Q I ⟨W, env, S, o, S', wd, re, e, q⟩ => ?_⟩
  simp only [evOpt] at e
  split at e
  · rename_i i S1 e1
    cases e
    refine (po_some h).run pins s σ H Q I ⟨W, env, S, _, _, wd, re, e1, fun W1 v1 H1 le1 wd1 r1 => ?_⟩
    cases r1
    exact ⟨i, rfl, q W1 H1 le1 wd1⟩
  · cases e
/-! methods of lists -/
def rMth (K : PySem.W.Frag) (m : Mth) : V → List V → Hp → VK → Prop := fun x xs H Q => ∃ (a : Addr) (y : V) (d : PyData) (ds : List PyData) (i : Int), x = V.ref a ∧ xs = [y] ∧ Dp K H (V.ref a) (.list ds) ∧ Dp K H y d ∧ mthD m (.list ds) d = some i ∧ Q (.int i) H
omit at_ in
theorem mt_count (hu : X.A.units + 65 < cLine) : MtR X "list.count" (rMth X.K .count) := by
  intro pins s σ H x xs v us Q I rx rxs h
  obtain ⟨a, y, d, ds, i, rfl, rfl, hl, hy, hi, q⟩ := h
  simp only [mthD] at hi
  split at hi
  · rename_i hsh
    obtain ⟨sl, sd⟩ := hsh
    cases hi
    cases rx
    obtain ⟨uy, rfl, ry⟩ := rxs.one
    obtain ⟨bs, r1⟩ := Dp.reads I d y uy hy ry
    have hxs : PyData.canLayAll0 ds = true := SeqAt.canLay_of_shaped sl
    have hroom : X.A.units + 1 + min (PyData.depthAll ds) d.depth < cLine := room_in_shaped sd hu
    cases hl with
    | lst hs ha =>
      obtain ⟨its, rv, ⟨⟨cls, dd, data, sls⟩, n, ho, hc, hdn, hdt⟩, hlen⟩ := I.list hs
      simp only at hc hdt
      subst hc hdt
      obtain ⟨as, h4⟩ := Dp.readsAll I ds _ its ha rv
      have hmap : its.map (SeqAt.readOf s.heap) = ds := SeqAt.readsAll_map ds its as hxs h4
      refine call_meets PySem.F.slot_list_count ⟨_, ho, rfl⟩ PySem.F.entry_list_count (PySem.F.args_list_count_2 _ _)
        (SeqAt.list_countAt a its.toArray n dd sls uy (fun u => PyData.eqv (SeqAt.readOf s.heap u) d)) ⟨ho, SeqAt.items_eqAt (vs := its.toArray) (show ReadsAll s.heap its.toArray.toList ds as from h4) r1 hxs (SeqAt.canLay_of_shaped sd) hroom, ?_⟩
      have ec : its.toArray.toList.countP (fun u => PyData.eqv (SeqAt.readOf s.heap u) d) = ds.countP fun z => PyData.eqv z d := by
        rw [← hmap, List.countP_map]
        rfl
      refine ⟨.int (ds.countP (fun z => PyData.eqv z d) : Nat), H, I.tok _, ⟨s.toks, ?_⟩, q⟩
      show Value.int ((its.toArray.toList.countP _ : Nat) : Int) s.toks = Value.int ((ds.countP _ : Nat) : Int) s.toks
      rw [ec]
  · cases hi
omit at_ in
theorem mt_index' (hu : X.A.units + 65 < cLine) : MtR X "list.index" (rMth X.K .index) := by
  intro pins s σ H x xs v us Q I rx rxs h
  obtain ⟨a, y, d, ds, i, rfl, rfl, hl, hy, hi, q⟩ := h
  simp only [mthD] at hi
  split at hi
  · rename_i hsh
    obtain ⟨sl, sd⟩ := hsh
    cases hf : ds.findIdx? (fun z => PyData.eqv z d) with
    | none =>
      rw [hf] at hi
      cases hi
    | some j =>
      rw [hf] at hi
      cases hi
      obtain ⟨hj, h1, h2⟩ := List.findIdx?_eq_some_iff_getElem.mp hf
      refine mt_indexD hu pins s σ H _ _ v us Q I rx rxs ⟨a, y, d, ds, j, ds[j], rfl, rfl, hl, hy, sl, sd, List.getElem?_eq_getElem hj, h1, fun m z' hm hz => ?_, q⟩
      obtain ⟨hm', rfl⟩ := List.getElem?_eq_some_iff.mp hz
      have := h2 m hm
      simpa using this
  · cases hi
theorem c_mth {m : Mth} {o e : Ex} {x y : Expr} {p1 p2 : Pos} (hb : notCall x = true) (hs : notSt y = true) (hl : (p1.endLine == p2.line) = true) (ho : PE X x (rdE X.K Φ Γ o)) (he : PE X y (rdE X.K Φ Γ e)) : PE X (.Call (.Attribute x m.nm p1) [y] [] p2) (rdE X.K Φ Γ (.mth m o e)) := by
  have hu := at_.hu
  have hm : PE X (.Call (.Attribute x m.nm p1) [y] [] p2) (tBM X.K "list" (rMth X.K m) (rdE X.K Φ Γ o) (rdA X.K Φ Γ (.cons e .nil))) := by
    cases m with
    | count => exact pe_bm (o := x) (e := y) (es := []) (apos := p1) (cpos := p2) PySem.F.plainAttrs_list PySem.F.slot_list_count PySem.F.type_list_count (mt_count hu) ho (a_cons hs he a_nil) (by cases x <;> first | rfl | cases hb) (by rw [star_of hs]; rfl) hl (star_of hs _ _) rfl
    | index => exact pe_bm (o := x) (e := y) (es := []) (apos := p1) (cpos := p2) PySem.F.plainAttrs_list PySem.F.slot_list_index PySem.F.type_list_index (mt_index' hu) ho (a_cons hs he a_nil) (by cases x <;> first | rfl | cases hb) (by rw [star_of hs]; rfl) hl (star_of hs _ _) rfl
  refine PE_imp hm fun σ H Q ⟨W, env, S, a', S', wd, re, e, q⟩ => ?_
  simp only [ev] at e
  split at e
  · cases e
  · rename_i a S1 e1
    split at e
    · rename_i l el
      split at e
      · cases e
      · rename_i b S2 e2
        split at e
        · rename_i dx dy g1 g2
          cases e3 : mthD m dx dy with
          | none =>
            rw [e3] at e
            cases e
          | some i =>
            rw [e3] at e
            cases e
            refine ⟨W, env, S, a, S1, wd, re, e1, fun W1 v1 H1 le1 wd1 r1 => ?_⟩
            have px1 := wd1.deref r1 el
            obtain ⟨p1, ws1, rfl, k1, k2⟩ := px1.list wd1.sub
            refine ⟨.inl ⟨rfl, _, .inl (.inl k1)⟩, W1, env, S1, [b], S', wd1, re.le le1, by simp only [evs, e2], fun W2 vs H2 le2 wd2 ra => ?_⟩
            cases ra with
            | cons rb t =>
              cases t
              have px := wd2.deref (r1.le le2) g1
              have py := wd2.deref rb g2
              cases dx with
              | list ds =>
                have hsh : SeqAt.shaped (.list ds) = true ∧ SeqAt.shaped dy = true := by
                  simp only [mthD] at e3
                  split at e3
                  · assumption
                  · cases e3
                exact ⟨_, _, dy, ds, i, rfl, rfl, px.dp wd2.sub (noDic_shaped hsh.1), py.dp wd2.sub (noDic_shaped hsh.2), e3, q W2 _ H2 (le1.trans le2) wd2 (.int i)⟩
              | _ => simp [mthD] at e3
        · cases e
    · cases e
/-! what is walked -/
omit at_ in
theorem un_none {nf : Addr → Prop} {W W' : Wo} {S : Sto} : UnL nf W W' none S := fun k kvs fz lk e _ => by cases e
omit at_ in
theorem un_lst {nf : Addr → Prop} {W W' : Wo} {S : Sto} {k : Nat} {xs : List PyData} {fz : Bool} (h : S[k]? = some (.lst xs fz)) : UnL nf W W' (some k) S := fun k' kvs fz lk e1 e2 => by
  cases e1
  rw [h] at e2
  cases e2
omit at_ in
theorem lk_go {W : Wo} {H : Hp} {S S' : Sto} {v : V} {a : A} {kvs : List (PyData × PyData)} {w : Option Nat} {P : Addr → PySem.Obj → List (Key × V) → Hp → Prop} (wd : Wd X.K W H S) (ra : Ra X.K W v a) (e : lkF a S = some (kvs, w, S'))
    (q : ∀ (d : Addr) (o : PySem.Obj) (vs : List (Key × V)) (W' : Wo) (H' : Hp), v = .ref d → Le W W' → Wd X.K W' H' S' → W'.L d = some (.frz o (.dK vs)) → RpK X.K W'.F vs kvs → vs.length ≤ sizeLine → UnL (NF X) W W' w S' → P d o vs H') :
    ∃ d vs, v = .ref d ∧ ((∃ o, H d = some (.frz o (.dK vs)) ∧ (vs.length ≤ sizeLine → P d o vs H)) ∨ (H d = some (.dK vs) ∧ (vs.length ≤ sizeLine → NF X d → ∀ o, P d o vs (upd H d (.frz o (.dK vs)))))) := by
  unfold lkF at e
  split at e
  · rename_i ks
    cases e
    obtain ⟨d, rfl⟩ : ∃ d, v = .ref d := by
      cases ra with
      | dicK q r => exact ⟨_, rfl⟩
    obtain ⟨vs, r, f, hd⟩ := lk_data wd ra
    refine ⟨d, vs, rfl, ?_⟩
    rcases hd with hd | ⟨o, hd⟩
    · refine .inr ⟨hd, fun hz nf o => ?_⟩
      obtain ⟨W', le, wd', ef, el⟩ := (wd.lockF f hd o).told upd_same
      exact q d o vs W' _ rfl le wd' el (r.le le.F) hz un_none
    · obtain ⟨W', le, wd', ef, el⟩ := wd.told hd
      exact .inl ⟨o, hd, fun hz => q d o vs W' _ rfl le wd' el (r.le le.F) hz un_none⟩
  · rename_i k
    split at e
    · rename_i ks fz lk ek
      obtain ⟨d, eρ, rfl⟩ := ra
      split at e
      · rename_i hf
        cases e
        obtain ⟨vs, h1, h2, h3⟩ := wd.ob k d _ eρ ek
        refine ⟨d, vs, rfl, ?_⟩
        rcases h1 with h1 | ⟨_, o, h1⟩
        · refine .inr ⟨h1, fun hz nf o => ?_⟩
          obtain ⟨W', le, wd', ef, el⟩ := (wd.lockO eρ ek hf h1 o).told upd_same
          exact q d o vs W' _ rfl le wd' el (h2.le le.F) hz un_none
        · obtain ⟨W', le, wd', ef, el⟩ := wd.told h1
          exact .inl ⟨o, h1, fun hz => q d o vs W' _ rfl le wd' el (h2.le le.F) hz un_none⟩
      · rename_i hf
        cases e
        have hff : fz = false ∧ lk = false := by
          cases fz <;> cases lk <;> simp at hf ⊢
        obtain ⟨rfl, rfl⟩ := hff
        obtain ⟨vs, g1, _⟩ := wd.lock (o := default) eρ ek
        refine ⟨d, vs, rfl, .inr ⟨g1, fun hz nf o => ?_⟩⟩
        obtain ⟨vs', k1, k2, k3, k4, k5, k6⟩ := wd.lock (o := o) eρ ek
        rw [g1] at k1
        cases k1
        refine q d o vs _ _ rfl k6 k5 upd_same k2 hz fun k' ks' fz' lk' e1 e2 => ?_
        cases e1
        exact ⟨d, o, vs, eρ, upd_same, nf, k4⟩
    · cases e
  · cases e
theorem i_seq {e : Ex} {tg x : Expr} (h : PE X x (rdE X.K Φ Γ e)) : PI X tg x (rdI X.K Φ Γ (NF X) (.seq e)) := by
  refine PI_imp (pi_seq h) fun σ H R ⟨W, env, S, xs, w, S', wd, re, e, q⟩ => ?_
  simp only [evI] at e
  split at e
  · cases e
  · rename_i a S1 e1
    refine ⟨W, env, S, a, S1, wd, re, e1, fun W1 v1 H1 le1 wd1 r1 => ?_⟩
    split at e
    · rename_i r' e0
      cases e
      unfold seqF at e0
      split at e0
      · cases e0
        cases r1 with
        | lst g r => exact .inl ⟨_, _, rfl, .inl (.inl (wd1.sub.ex g rfl)), fun hz => q W1 _ H1 le1 wd1 (wk_list g r hz) un_none⟩
      · cases e0
        cases r1 with
        | tup g r => exact .inr (.inl ⟨_, _, rfl, (wd1.sub.tupP g).seq, fun hz => q W1 _ H1 le1 wd1 (wk_tup g.seq r hz) un_none⟩)
      · split at e0
        · rename_i hz
          cases e0
          cases r1
          exact .inr (.inr (.inl ⟨_, rfl, q W1 _ H1 le1 wd1 (wk_str hz) un_none⟩))
        · cases e0
      · rename_i k
        split at e0
        · rename_i ys fz ek
          cases e0
          obtain ⟨p, g1, rfl⟩ := r1
          obtain ⟨vs, g2, g3, _⟩ := wd1.ob k p _ g1 ek
          exact .inl ⟨p, vs, rfl, .inl (.inl g2), fun hz => q W1 _ H1 le1 wd1 (wk_own g1 ek (by rw [← g3.length]; exact szu hz)) (un_lst ek)⟩
        · cases e0
      · cases e0
    · cases e2 : lkF a S1 with
      | none =>
        rw [e2] at e
        cases e
      | some r =>
        rw [e2] at e
        cases e
        obtain ⟨kvs, w', S2⟩ := r
        exact .inr (.inr (.inr (lk_go wd1 r1 e2 fun d o vs W' H' ev le' wd' el rk hz un => by
          exact q W' _ H' (le1.trans le') wd' (wk_keys el rk hz) (fun k ks fz lk e1 e2 => by
            obtain ⟨a', od, vs', k1, k2, k3, k4⟩ := un k ks fz lk e1 e2
            refine ⟨a', od, vs', k1, k2, k3, ?_⟩
            cases e3 : W.L a' with
            | none => rfl
            | some u =>
              have := le1.L _ _ e3
              rw [k4] at this
              cases this))))
theorem i_itm {a : Ex} {x : Expr} {elts : List Expr} {kk : Nat} {tpos p1 p2 : Pos} (hb : notCall x = true) (hl : (p1.endLine == p2.line) = true) (h : PE X x (rdE X.K Φ Γ a)) : PI X (.Tuple elts kk tpos) (.Call (.Attribute x "items" p1) [] [] p2) (rdI X.K Φ Γ (NF X) (.itm a)) := by
  refine PI_imp (pi_itemsU h (by cases x <;> first | rfl | cases hb) hl) fun σ H R ⟨W, env, S, xs, w, S', wd, re, e, q⟩ => ?_
  simp only [evI] at e
  split at e
  · cases e
  · rename_i a S1 e1
    refine ⟨W, env, S, a, S1, wd, re, e1, fun W1 v1 H1 le1 wd1 r1 => ?_⟩
    cases e2 : lkF a S1 with
    | none =>
      rw [e2] at e
      cases e
    | some r =>
      rw [e2] at e
      cases e
      obtain ⟨kvs, w', S2⟩ := r
      exact lk_go wd1 r1 e2 fun d o vs W' H' ev le' wd' el rk hz un => by
        exact q W' _ H' (le1.trans le') wd' (wk_items el rk hz) (fun k ks fz lk e1 e2 => by
          obtain ⟨a', od, vs', k1, k2, k3, k4⟩ := un k ks fz lk e1 e2
          refine ⟨a', od, vs', k1, k2, k3, ?_⟩
          cases e3 : W.L a' with
          | none => rfl
          | some u =>
            have := le1.L _ _ e3
            rw [k4] at this
            cases this)
theorem i_rng {a : Ex} {y tg : Expr} {p pos : Pos} (h2 : isGl X.env.scope "range" = true) (s1 : notSt y = true) (h : PE X y (rdE X.K Φ Γ a)) : PI X tg (.Call (.Name "range" p) [y] [] pos) (rdI X.K Φ Γ (NF X) (.rng a)) := by
  refine PI_imp (pi_range1 (isGl_ok h2) (at_.blt _ (by decide)) (a_cons s1 h a_nil) (star_of s1 _ _)) fun σ H R ⟨W, env, S, xs, w, S', wd, re, e, q⟩ => ?_
  simp only [evI] at e
  split at e
  · rename_i j S1 e1
    unfold rngF at e
    split at e
    · rename_i hb
      cases e
      refine ⟨W, env, S, [.d (.int j)], S', wd, re, by simp only [evs, e1], fun W1 vs H1 le1 wd1 r1 => ?_⟩
      cases r1 with
      | cons r t =>
        cases t
        cases r
        refine ⟨j, rfl, hb.1.2.2.1, hb.1.2.2.2, ?_⟩
        have := q W1 _ H1 le1 wd1 (wk_rng (lo := 0) hb.2) un_none
        simpa using this
    · cases e
  · cases e
theorem i_rng2 {a b : Ex} {y z tg : Expr} {p pos : Pos} (h2 : isGl X.env.scope "range" = true) (s1 : notSt y = true) (s2 : notSt z = true) (h : PE X y (rdE X.K Φ Γ a)) (h' : PE X z (rdE X.K Φ Γ b)) : PI X tg (.Call (.Name "range" p) [y, z] [] pos) (rdI X.K Φ Γ (NF X) (.rng2 a b)) := by
  refine PI_imp (pi_range2 (isGl_ok h2) (at_.blt _ (by decide)) (a_cons s1 h (a_cons s2 h' a_nil)) (by rw [star_of s1, star_of s2]; rfl) (star_of s2 _ _)) fun σ H R ⟨W, env, S, xs, w, S', wd, re, e, q⟩ => ?_
  simp only [evI] at e
  split at e
  · rename_i i S1 e1
    split at e
    · rename_i j S2 e2
      unfold rngF at e
      split at e
      · rename_i hb
        cases e
        refine ⟨W, env, S, [.d (.int i), .d (.int j)], S', wd, re, by simp only [evs, e1, e2], fun W1 vs H1 le1 wd1 r1 => ?_⟩
        cases r1 with
        | cons r t =>
          cases t with
          | cons r' t =>
            cases t
            cases r
            cases r'
            exact ⟨i, j, rfl, hb.1, q W1 _ H1 le1 wd1 (wk_rng hb.2) un_none⟩
      · cases e
    · cases e
  · cases e
theorem i_enm {a : Ex} {y : Expr} {elts : List Expr} {kk : Nat} {tpos p pos : Pos} (h2 : isGl X.env.scope "enumerate" = true) (s1 : notSt y = true) (h : PE X y (rdE X.K Φ Γ a)) : PI X (.Tuple elts kk tpos) (.Call (.Name "enumerate" p) [y] [] pos) (rdI X.K Φ Γ (NF X) (.enm a)) := by
  refine PI_imp (pi_enumA (isGl_ok h2) (at_.blt _ (by decide)) (a_cons s1 h a_nil) (star_of s1 _ _)) fun σ H R ⟨W, env, S, xs, w, S', wd, re, e, q⟩ => ?_
  simp only [evI] at e
  split at e
  · rename_i ds S1 e1
    cases e
    refine ⟨W, env, S, [.d (.list ds)], S', wd, re, by simp only [evs, e1], fun W1 vs H1 le1 wd1 r1 => ?_⟩
    cases r1 with
    | cons r t =>
      cases t
      cases r with
      | lst g r => exact ⟨_, _, rfl, .inl ⟨.inl (.inl (wd1.sub.ex g rfl)), fun hz => q W1 _ H1 le1 wd1 (wk_enmL g r hz) un_none⟩⟩
  · rename_i ds S1 e1
    cases e
    refine ⟨W, env, S, [.d (.tuple ds)], S', wd, re, by simp only [evs, e1], fun W1 vs H1 le1 wd1 r1 => ?_⟩
    cases r1 with
    | cons r t =>
      cases t
      cases r with
      | tup g r => exact ⟨_, _, rfl, .inr ⟨(wd1.sub.tupP g).seq, fun hz => q W1 _ H1 le1 wd1 (wk_enmT g.seq r hz) un_none⟩⟩
  · cases e
theorem i_zip {a b : Ex} {y z : Expr} {elts : List Expr} {kk : Nat} {tpos p pos : Pos} (h2 : isGl X.env.scope "zip" = true) (s1 : notSt y = true) (s2 : notSt z = true) (h : PE X y (rdE X.K Φ Γ a)) (h' : PE X z (rdE X.K Φ Γ b)) : PI X (.Tuple elts kk tpos) (.Call (.Name "zip" p) [y, z] [] pos) (rdI X.K Φ Γ (NF X) (.zip a b)) := by
  refine PI_imp (RZ.pi_zipA (isGl_ok h2) (at_.blt _ (by decide)) (a_cons s1 h (a_cons s2 h' a_nil)) (star_of s1 _ _) (back_of _ _ (by simp [allSt, s2]))) fun σ H R ⟨W, env, S, xs, w, S', wd, re, e, q⟩ => ?_
  simp only [evI] at e
  split at e
  · rename_i ds S1 e1
    split at e
    · rename_i es S2 e2
      split at e
      · rename_i hz
        cases e
        refine ⟨W, env, S, [.d (.list ds), .d (.list es)], S', wd, re, by simp only [evs, e1, e2], fun W1 vs H1 le1 wd1 r1 => ?_⟩
        cases r1 with
        | cons r t =>
          cases t with
          | cons r' t =>
            cases t
            cases r with
            | lst g r =>
              cases r' with
              | lst g' r' => exact ⟨_, _, _, _, rfl, .inl ⟨.inl (.inl (wd1.sub.ex g rfl)), .inl (.inl (wd1.sub.ex g' rfl)), q W1 _ H1 le1 wd1 (wk_zipL g r g' r' hz) un_none⟩⟩
      · cases e
    · cases e
  · rename_i ds S1 e1
    split at e
    · rename_i es S2 e2
      split at e
      · rename_i hz
        cases e
        refine ⟨W, env, S, [.d (.tuple ds), .d (.tuple es)], S', wd, re, by simp only [evs, e1, e2], fun W1 vs H1 le1 wd1 r1 => ?_⟩
        cases r1 with
        | cons r t =>
          cases t with
          | cons r' t =>
            cases t
            cases r with
            | tup g r =>
              cases r' with
              | tup g' r' => exact ⟨_, _, _, _, rfl, .inr ⟨(wd1.sub.tupP g).seq, (wd1.sub.tupP g').seq, q W1 _ H1 le1 wd1 (wk_zipT g.seq r g'.seq r' hz) un_none⟩⟩
      · cases e
    · cases e
  · cases e
/-! targets -/
theorem g_nm {i : Nat} {x : Str} {pos : Pos} (h1 : X.N[i]? = some x) (h2 : Loc X.env.scope x) (h3 : X.fn x = true ∨ X.env.scope.names.lookup x = some .local) : PG X (.Name x pos) (rdG X.K Φ Γ (.nm i)) := by
  refine PG_imp (pg_name at_.nd h1 h2 h3) fun v σ H Q ⟨W, a, env, S, env', S', wd, re, ra, e, q⟩ => ?_
  simp only [bnd] at e
  cases e
  exact q W _ H (.refl W) wd (re.set i ra) (wipe_set _ _ _)
omit at_ in
theorem gs_nil : PGs X [] (rdGs X.K Φ Γ .nil) := by
  refine PGs_imp pgs_nil fun vs σ H Q ⟨W, as, env, S, env', S', wd, re, ra, e, q⟩ => ?_
  simp only [bnds] at e
  split at e
  · cases e
    cases ra
    exact ⟨rfl, q W σ H (.refl W) wd re rfl⟩
  · cases e
omit at_ in
theorem gs_cons {t : Tg} {ts : Tgs} {x : Expr} {xs : List Expr} (hs : notSt x = true) (h1 : PG X x (rdG X.K Φ Γ t)) (h2 : PGs X xs (rdGs X.K Φ Γ ts)) : PGs X (x :: xs) (rdGs X.K Φ Γ (.cons t ts)) := by
  have st : (assignEach (x :: xs) X.env).map (·.2) = assign x X.env :: (assignEach xs X.env).map (·.2) := by
    cases x <;> first | rfl | cases hs
  refine PGs_imp (pgs_cons h1 h2 st) fun vs σ H Q ⟨W, as, env, S, env', S', wd, re, ra, e, q⟩ => ?_
  simp only [bnds] at e
  split at e
  · cases e
  · split at e
    · cases e
    · rename_i a as' _ env1 S1 e1
      cases ra with
      | cons r rr =>
        refine ⟨_, _, rfl, W, a, env, S, env1, S1, wd, re, r, e1, fun W1 σ1 H1 le1 wd1 re1 w1 => ?_⟩
        refine ⟨W1, as', env1, S1, env', S', wd1, re1, rr.le le1, e, fun W2 σ2 H2 le2 wd2 re2 w2 => ?_⟩
        refine q W2 σ2 H2 (le1.trans le2) wd2 re2 ?_
        show wipe σ2 (t.slots ++ ts.slots) = wipe σ (t.slots ++ ts.slots)
        rw [wipe_app, wipe_comm, w2, wipe_comm, w1, wipe_app]
omit at_ in
theorem assign_len : ∀ {xs : List Expr} {ts : Tgs} {sc : Scope} {ow : Str → Bool} {big : Bool} {env : Env}, agTs nm X.N sc ow big ts xs = true → (assignEach xs env).length = ts.len ∧ (assignEach xs env).findIdx? (·.1) = none
  | [], .nil, _, _, _, _, _ => ⟨rfl, rfl⟩
  | [], .cons _ _, _, _, _, _, h => by simp [agTs] at h
  | _ :: _, .nil, _, _, _, _, h => by simp [agTs] at h
  | x :: xs, .cons t ts, sc, ow, big, env, h => by
    simp only [agTs, Bool.and_eq_true] at h
    have st : assignEach (x :: xs) env = (false, assign x env) :: assignEach xs env := by
      cases x <;> first | rfl | (simp [notSt] at h)
    obtain ⟨h1, h2⟩ := assign_len (env := env) h.2
    rw [st]
    refine ⟨by rw [List.length_cons, h1]; rfl, ?_⟩
    rw [List.findIdx?_cons]
    simp [h2]
theorem g_tp {ts : Tgs} {xs : List Expr} {k : Nat} {pos : Pos} {sc : Scope} {ow : Str → Bool} {big : Bool} (ha : agTs nm X.N sc ow big ts xs = true) (h : PGs X xs (rdGs X.K Φ Γ ts)) : PG X (.Tuple xs k pos) (rdG X.K Φ Γ (.tp ts)) := by
  obtain ⟨l1, l2⟩ := assign_len (env := X.env) ha
  refine PG_imp (pg_tup at_.calm h l1 l2) fun v σ H Q ⟨W, a, env, S, env', S', wd, re, ra, e, q⟩ => ?_
  simp only [bnd] at e
  split at e
  · rename_i xs
    split at e
    · rename_i hl
      cases ra with
      | tup g r =>
        refine ⟨_, _, rfl, (wd.sub.tupP g).seq, by rw [r.length]; exact hl, W, xs.map .d, env, S, env', S', wd, re, ?_, e, q⟩
        clear e hl g
        have go : ∀ {vs : List V} {ds : List PyData}, RpA X.K W.F vs ds → RaA X.K W vs (ds.map .d) := by
          intro vs ds
          induction ds generalizing vs with
          | nil =>
            intro r
            cases r
            exact .nil
          | cons d ds ih =>
            intro r
            cases r with
            | cons q r => exact .cons q (ih r)
        exact go r
    · cases e
  · split at e
    · rename_i x y hl
      obtain ⟨p, vx, vy, rfl, g, r1, r2⟩ := ra
      exact ⟨p, [vx, vy], rfl, wd.sub.seqT g, hl.symm, W, [x, y], env, S, env', S', wd, re, .cons r1 (.cons r2 .nil), e, q⟩
    · cases e
  · cases e
omit at_ in
theorem set_ok (hu : X.A.units + 1 < cLine) : PSet X (fun o i v H Q => ∃ W S a b c S', Wd X.K W H S ∧ Ra X.K W o a ∧ Ra X.K W i b ∧ Ra X.K W v c ∧ setF a b c S = some S' ∧ ∀ W' H', Le W W' → Wd X.K W' H' S' → Q H') := by
  intro pins s σ H o i v ov iv u Q I ro ri rv ⟨W, S, a, b, c, S', wd, ra, rb, rc, e, q⟩
  unfold setF at e
  split at e
  · rename_i k
    split at e
    · rename_i xs ek
      split at e
      · rename_i j
        split at e
        · rename_i x S1 ef
          split at e
          · rename_i n fz ei ek2
            cases e
            obtain ⟨p, g1, rfl⟩ := ra
            cases rb
            obtain ⟨W1, le1, eρ, wd1, rx⟩ := wd.frz rc ef
            have gk : W1.ρ[k]? = some p := by
              rw [eρ]
              exact g1
            obtain ⟨vs, h1, h2, h3⟩ := wd.ob k p _ g1 ek
            obtain ⟨vs', h1', h2', h3'⟩ := wd1.ob k p _ gk ek2
            rw [h1] at h1'
            cases h1'
            have nF : W1.F p = none := by simpa using h3'
            refine set_list pins s σ H _ _ v ov iv u Q I ro ri rv ⟨p, vs, j, n, rfl, rfl, h1, by rw [h2.length]; exact ei, ?_⟩
            refine q W1 _ le1 (wd1.write gk nF (wd1.notL h1 rfl) ⟨vs.set n v, upd_same, (h2.le le1.F).set rx n, by simpa using nF⟩)
          · cases e
        · cases e
      · cases e
    · rename_i ks0 fz0 lk0 ek
      split at e
      · rename_i y
        split at e
        · rename_i x S1 ef
          split at e
          · rename_i kvs ek2
            split at e
            · rename_i hc
              cases e
              obtain ⟨p, g1, rfl⟩ := ra
              obtain ⟨ky, hky⟩ := Option.isSome_iff_exists.mp hc.1
              obtain ⟨W1, le1, eρ, wd1, rx⟩ := wd.frz rc ef
              have gk : W1.ρ[k]? = some p := by
                rw [eρ]
                exact g1
              obtain ⟨vs, h1, h2, h3⟩ := wd1.ob k p _ gk ek2
              have hp : H p = some (.dK vs) := by
                rcases h1 with h1 | ⟨z, _⟩
                · exact h1
                · rcases z with z | z <;> cases z
              have nF : W1.F p = none := by simpa using h3
              have ei := keyD_kV hky rb
              subst ei
              refine set_dict (by omega) pins s σ H _ _ v ov iv u Q I ro ri rv ⟨p, _, rfl, DPut.k hp (by rw [h2.length, sizeLine_eq]; exact hc.2), ?_⟩
              exact q W1 _ le1 (wd1.write gk nF (wd1.notL hp rfl) ⟨_, .inl upd_same, h2.put hky rx, by simpa using nF⟩)
            · cases e
          · cases e
        · cases e
      · cases e
    · cases e
  · cases e
theorem g_sub {o i : Ex} {x y : Expr} {pos : Pos} (hs : notSl y = true) (h1 : PE X x (rdE X.K Φ Γ o)) (h2 : PE X y (rdE X.K Φ Γ i)) : PG X (.Subscript x y pos) (rdG X.K Φ Γ (.sub o i)) := by
  have hu : X.A.units + 1 < cLine := by have := at_.hu; omega
  refine PG_imp (pg_sub h1 h2 (set_ok hu) (by intro v; cases y <;> first | rfl | cases hs)) fun v σ H Q ⟨W, a, env, S, env', S', wd, re, ra, e, q⟩ => ?_
  simp only [bnd] at e
  split at e
  · cases e
  · rename_i x' S1 e1
    split at e
    · cases e
    · rename_i y' S2 e2
      cases e3 : setF x' y' a S2 with
      | none =>
        rw [e3] at e
        cases e
      | some S3 =>
        rw [e3] at e
        cases e
        exact ⟨W, env, S, x', S1, wd, re, e1, fun W1 v1 H1 le1 wd1 r1 => ⟨W1, env, S1, y', S2, wd1, re.le le1, e2, fun W2 v2 H2 le2 wd2 r2 => ⟨W2, S2, x', y', a, _, wd2, r1.le le2, r2, (ra.le le1).le le2, e3, fun W3 H3 le3 wd3 =>
          q W3 σ H3 ((le1.trans le2).trans le3) wd3 (((re.le le1).le le2).le le3) rfl⟩⟩⟩
theorem rpA_rg {K : PySem.W.Frag} {F : Hp} (n : Int) : RpA K F (rgV 0 n) (rngD 0 (n - 0).toNat) := by
  have go : ∀ (l : List Nat), RpA K F (l.map fun i => V.int (0 + (i : Nat))) (l.map fun k => PyData.int (0 + (k : Nat))) := fun l => by
    induction l with
    | nil => exact .nil
    | cons x l ih => exact .cons (.int _) ih
  exact go _
theorem c_lrgN {a : Ex} {z : Expr} {p1 p2 p3 pos : Pos} (h1 : isGl X.env.scope "list" = true) (h2 : isGl X.env.scope "range" = true) (hs : notSt z = true) (ha : PE X z (rdE X.K Φ Γ a)) : PE X (.Call (.Name "list" p1) [.Call (.Name "range" p2) [z] [] p3] [] pos) (rdN X.K Φ Γ (.lrg a)) := by
  refine PE_imp (pe_listRg at_.calm (isGl_ok h1) (at_.blt _ (by decide)) (prg_1 (isGl_ok h2) (at_.blt _ (by decide)) ha (star_of hs _ _)) rfl) fun σ H Q ⟨W, env, S, ds, S', wd, re, e, q⟩ => ?_
  simp only [ev] at e
  split at e
  · rename_i j S1 e1
    unfold rngF at e
    split at e
    · rename_i hb
      cases e
      refine ⟨W, env, S, _, S', wd, re, e1, fun W1 v1 H1 le1 wd1 r1 => ?_⟩
      cases r1
      refine ⟨j, rfl, ⟨hb.1.1, hb.1.2.1, hb.1.2.2.1, hb.1.2.2.2, hb.2⟩, fun p hn => ?_⟩
      exact q W1 p _ _ le1 (wd1.junk hn) (wd1.freeF hn) (wd1.notin hn) (wd1.freeG hn) upd_same (rpA_rg at_ j)
    · cases e
  · cases e
end
end PV

/-! PW2: list(d.items()), sorted(d.items()). -/
namespace PV
open PySem PySem.Spec PyProof.Rows L2
section
variable {X : Cx} {pins : List (Addr × PySem.Obj)} {σ : L2.St} {H : Hp} {s : Shared} {Q : VK}
/-- many new things at once -/
def putH (H : Hp) (N : List (Addr × HO)) : Hp := fun b => match N.find? fun p => decide (p.1 = b) with
  | some p => some p.2
  | none => H b
theorem putH_none {N : List (Addr × HO)} {b : Addr} (h : ∀ p ∈ N, p.1 ≠ b) : putH H N b = H b := by
  unfold putH
  rw [List.find?_eq_none.mpr fun p hp => by simpa using h p hp]
theorem putH_some {N : List (Addr × HO)} {b : Addr} {u : HO} (h : putH H N b = some u) : H b = some u ∧ (∀ p ∈ N, p.1 ≠ b) ∨ ∃ p ∈ N, p.1 = b ∧ p.2 = u := by
  unfold putH at h
  split at h
  · rename_i p e
    cases h
    exact .inr ⟨p, List.mem_of_find?_eq_some e, by simpa using List.find?_some e, rfl⟩
  · rename_i e
    exact .inl ⟨h, fun p hp z => by
      have := List.find?_eq_none.mp e p hp
      simp [z] at this⟩
theorem putH_at : ∀ {N : List (Addr × HO)} {p : Addr × HO}, (N.map (·.1)).Nodup → p ∈ N → putH H N p.1 = some p.2
  | q :: N, p, nd, hp => by
    unfold putH
    rw [List.find?_cons]
    rw [List.map_cons, List.nodup_cons] at nd
    rcases List.mem_cons.mp hp with e | hp
    · subst e
      simp
    · have n : q.1 ≠ p.1 := fun z => nd.1 (z ▸ List.mem_map.mpr ⟨p, hp, rfl⟩)
      simp only [n, decide_false]
      exact putH_at nd.2 hp
theorem laidMany {h' : Heap} {tk : Nat} {N : List (Addr × HO)} (I : Inv X pins σ H s) (hk : ∀ b o, s.heap.get? b = some o → h'.get? b = some o) (hn : ∀ p ∈ N, s.heap.objs.size ≤ p.1) (ok : ∀ p ∈ N, ObjOk X.prog X.w (putH H N) h' p.1 p.2) : Inv X pins σ (putH H N) { s with heap := h', toks := tk } := by
  have kp : ∀ b u, H b = some u → putH H N b = some u := fun b u e => by
    rw [putH_none fun p hp z => ?_]
    · exact e
    · have := I.hok.fresh (hn p hp)
      rw [z, e] at this
      cases this
  refine I.call' (ch := []) rfl ⟨fun b o q _ _ _ => hk b o q, fun b o q _ _ _ => ⟨o.slots, hk b o q⟩, fun b o q n _ => ?_, fun b o q _ => ⟨o, hk b o q⟩, fun b xs q => kp b _ q, fun b o u q => kp b _ q, fun b ps q => ⟨#[], by rw [kp b _ q]; simp⟩⟩ (fun b u q => ?_) I.bare fun b z => by simp at z
  · rw [putH_none fun p hp z => by
    have h1 := hn p hp
    have h2 : b < s.heap.objs.size := Heap.lt_size q
    rw [z] at h1
    exact absurd h2 (Nat.not_lt.mpr h1)]
    exact n
  · rcases putH_some q with ⟨e, _⟩ | ⟨p, hp, e1, e2⟩
    · exact (I.hok b u e).stay (fun d v _ y => hk d v y) (fun d y => kp d _ y) fun d xs y => kp d _ y
    · subst e1 e2
      exact ok p hp
/-- the pairs of a dict as new tuples -/
theorem items_new {h' : Heap} {lo : Addr} {as : List Addr} {ws : List (Key × V)} {vs : List (Key × Value)} {kvs : List (PyData × PyData)} {W : Wo} {S : Sto} (I : Inv X pins σ H s) (wd : Wd X.K W H S) (kv : KV ws vs) (rk : RpK X.K W.F ws kvs) (hk : ∀ b o, s.heap.get? b = some o → h'.get? b = some o) (hl : as.length = vs.length)
    (hG : PySem.W.KdxG (mixKind X.prog X.w) vs lo h' as) (hlo : s.heap.objs.size ≤ lo) : ∃ N : List (Addr × HO), (N.map (·.1)) = as ∧ (∀ p ∈ N, s.heap.objs.size ≤ p.1) ∧ (∀ p ∈ N, ∀ H', ObjOk X.prog X.w H' h' p.1 p.2) ∧
      ∀ (H' : Hp), (∀ p ∈ N, H' p.1 = some p.2) → ∀ (W' : Wo), Le W W' → (∀ p ∈ N, W'.F p.1 = some p.2) → RpA X.K W'.F (as.map V.ref) (itmD kvs) := by
  have lk : ws.length = vs.length := Paired.length kv
  have lr : ws.length = kvs.length := rk.length
  have at_ : ∀ (j : Nat) (a : Addr), as[j]? = some a → ∃ (pk : Key × V) (key x : Value), ws[j]? = some pk ∧ RelV (kV pk.1) key ∧ RelV pk.2 x ∧ h'.get? a = some { cls := .type "tuple", data := .seq #[key, x] } := fun j a e => by
    obtain ⟨key, k, x, f1, f2, f3⟩ := hG.pairs j a e
    have hj : j < ws.length := by
      rw [lk, ← hl]
      exact (List.getElem?_eq_some_iff.mp e).1
    obtain ⟨u, g1, g2⟩ := kv_get kv (show ws[j]? = some (ws[j].1, ws[j].2) from List.getElem?_eq_getElem hj)
    rw [f1] at g1
    cases g1
    exact ⟨ws[j], key, x, List.getElem?_eq_getElem hj, relV_key (show keyIs _ key = true from f2), g2, f3⟩
  clear kv
  -- a choice, place by place
  have go : ∀ (as : List Addr) (ws : List (Key × V)) (kvs : List (PyData × PyData)), as.length = ws.length → RpK X.K W.F ws kvs → (∀ (j : Nat) (a : Addr), as[j]? = some a → ∃ (pk : Key × V) (key x : Value), ws[j]? = some pk ∧ RelV (kV pk.1) key ∧ RelV pk.2 x ∧ h'.get? a = some { cls := .type "tuple", data := .seq #[key, x] }) →
      ∃ N : List (Addr × HO), (N.map (·.1)) = as ∧ (∀ p ∈ N, ∀ H', ObjOk X.prog X.w H' h' p.1 p.2) ∧ ∀ (W' : Wo), Le W W' → (∀ p ∈ N, W'.F p.1 = some p.2) → RpA X.K W'.F (as.map V.ref) (itmD kvs) := by
    intro as
    induction as with
    | nil =>
      intro ws kvs hl rk _
      cases rk with
      | nil => exact ⟨[], rfl, (fun p hp => by cases hp), fun W' _ _ => .nil⟩
      | cons _ _ _ => cases hl
    | cons a as ih =>
      intro ws kvs hl rk at_
      cases rk with
      | nil => cases hl
      | cons e q r =>
        rename_i k v ws x d kvs
        obtain ⟨N, n1, n2, n3⟩ := ih ws kvs (by simpa using hl) r fun j b e => by
          have := at_ (j + 1) b (by simpa using e)
          simpa using this
        obtain ⟨pk, key, xx, g1, g2, g3, g4⟩ := at_ 0 a rfl
        cases g1
        refine ⟨(a, .frz { cls := .type "tuple", data := .seq #[key, xx] } (.tup [kV k, v])) :: N, by rw [List.map_cons, n1], fun p hp H' => ?_, fun W' le hp => ?_⟩
        · rcases List.mem_cons.mp hp with z | hp
          · subst z
            exact ⟨g4, by show 2 ≤ sizeLine; decide, [key, xx], .cons g2 (.cons g3 .nil), ⟨_, g4, rfl, _, rfl⟩⟩
          · exact n2 p hp H'
        · refine .cons (.tup (.inl ⟨_, hp _ List.mem_cons_self, rfl⟩) (.cons (rp_kV e) (.cons (q.le le.F) .nil))) (n3 W' le fun p h => hp p (List.mem_cons_of_mem _ h))
  obtain ⟨N, n1, n2, n3⟩ := go as ws kvs (by rw [hl, lk]) rk at_
  refine ⟨N, n1, fun p hp => ?_, n2, fun H' _ W' le hp => n3 W' le hp⟩
  have : p.1 ∈ as := by
    rw [← n1]
    exact List.mem_map.mpr ⟨p, hp, rfl⟩
  exact Nat.le_trans hlo (Nat.le_of_lt (hG.above _ this))
/-- a world with new things that never change -/
theorem Wd.pureMany {K : PySem.W.Frag} {S : Sto} : ∀ {N : List (Addr × HO)} {W : Wo}, Wd K W H S → (∀ p ∈ N, H p.1 = none) → (N.map (·.1)).Nodup → ∃ W', Le W W' ∧ Wd K W' (putH H N) S ∧ W'.ρ = W.ρ ∧ (∀ p ∈ N, W'.F p.1 = some p.2) ∧ ∀ b, (∀ p ∈ N, p.1 ≠ b) → W'.F b = W.F b
  | [], W, wd, _, _ => ⟨W, .refl W, wd, rfl, fun p hp => by (cases hp), fun b _ => rfl⟩
  | p :: N, W, wd, hn, nd => by
    rw [List.map_cons, List.nodup_cons] at nd
    obtain ⟨W1, le1, wd1, eρ, f1, f2⟩ := Wd.pureMany (N := N) wd (fun q hq => hn q (List.mem_cons_of_mem _ hq)) nd.2
    have ne : ∀ q ∈ N, q.1 ≠ p.1 := fun q hq z => nd.1 (z ▸ List.mem_map.mpr ⟨q, hq, rfl⟩)
    have n0 : putH H N p.1 = none := by
      rw [putH_none ne]
      exact hn p List.mem_cons_self
    have eH : putH H (p :: N) = upd (putH H N) p.1 p.2 := by
      funext b
      unfold putH upd
      rw [List.find?_cons]
      by_cases hb : p.1 = b
      · simp [hb]
      · simp only [hb, decide_false]
        rw [if_neg (Ne.symm hb)]
    rw [eH]
    refine ⟨⟨upd W1.F p.1 p.2, W1.ρ, W1.G, W1.L⟩, le1.trans (.upd (wd1.freeF n0)), wd1.pure n0, eρ, fun q hq => ?_, fun b hb => ?_⟩
    · show upd W1.F p.1 p.2 q.1 = some q.2
      rcases List.mem_cons.mp hq with z | hq
      · rw [z, upd_same]
      · rw [upd_ne (ne q hq)]
        exact f1 q hq
    · show upd W1.F p.1 p.2 b = W.F b
      rw [upd_ne (Ne.symm (hb p List.mem_cons_self))]
      exact f2 b fun q hq => hb q (List.mem_cons_of_mem _ hq)
end
section
variable {X : Cx} {e : Expr} {te : TE} {p apos cpos pos : Pos}
/-- a dict is read, its pairs new -/
def rIts (X : Cx) (srt : Bool) (te : TE) : TE := fun σ H Q => te σ H fun x H1 => ∃ W S d ws kvs ys, Wd X.K W H1 S ∧ x = .ref d ∧ Rd H1 d (.dK ws) ∧ RpK X.K W.F ws kvs ∧ (if srt = true then sortD (itmD kvs) else some (itmD kvs)) = some ys ∧ KtN X.K W S ys Q
theorem pe_its {srt : Bool} (hc : X.calm = true) (hu : X.A.units + 65 < cLine) (he : PE X e te) (hg : Gl X (if srt = true then "sorted" else "list")) (hm : X.mg (if srt = true then "sorted" else "list") = none) (hbase : attributeBase e "items" X.env (eval e X.env) = eval e X.env) (hline : (apos.endLine == cpos.line) = true) :
    PE X (.Call (.Name (if srt = true then "sorted" else "list") p) [.Call (.Attribute e "items" apos) [] [] cpos] [] pos) (rIts X srt te) := by
  have hs : starEach [.Call (.Attribute e "items" apos) [] [] cpos] X.env = (false, eval (.Call (.Attribute e "items" apos) [] [] cpos) X.env) :: starEach [] X.env := rfl
  -- the view
  have view : ∀ {σ : L2.St} {H : Hp} {s : Shared} {pins : List (Addr × PySem.Obj)} {Q : VK} {R : Value → Shared → Prop}, Inv X pins σ H s → rIts X srt te σ H Q →
      (∀ (s1 : Shared) (H1 : Hp) (W : Wo) (S : Sto) (d : Addr) (ws : List (Key × V)) (vs : List (Key × Value)) (kvs : List (PyData × PyData)) (ys : List PyData) (ep : Nat), Inv X pins σ H1 s1 → Wd X.K W H1 S → RpK X.K W.F ws kvs → KV ws vs → ws.length ≤ sizeLine → s1.heap.IsItemsView (s1.heap.objs.size - 1) d → 0 < s1.heap.objs.size → s1.heap.DictAt (mixKind X.prog X.w) d vs ep →
        (if srt = true then sortD (itmD kvs) else some (itmD kvs)) = some ys → KtN X.K W S ys Q → R (.ref (s1.heap.objs.size - 1)) s1) → wpAny (model X.prog X.w) X.A (eval (.Call (.Attribute e "items" apos) [] [] cpos) X.env) R X.xe s := by
    intro σ H s pins Q R I hq go
    refine wpAny_Call_method (T := "dict") (id := "dict.items") hbase rfl hline F.plainAttrs_dict F.slot_dict_items F.type_dict_items (thn (he.run pins s σ H _ I hq) fun u s1 ⟨x, H1, I1, rx, W, S, d, ws, kvs, ys, wd, ex, hd, rk, ey, q⟩ => ?_)
    subst ex
    obtain rfl : u = Value.ref d := rx
    obtain ⟨hz, hs0, vs, kv, hdo⟩ := dk_rd I1.hok hd
    obtain ⟨ep, hat⟩ := hdo.dictAt
    have I2 : Inv X pins σ H1 { s1 with heap := s1.heap.push { cls := .type "dict_items", data := .fields #[.ref d] } } := I1.kept (t' := s1.toks) fun b ob q => Heap.get?_push_of_some _ q
    refine ⟨hdo.typeIs, hdo.mapOf.noDict, ?_⟩
    show wpAny _ _ (callWith cpos (.builtin "dict.items") [.ref d] [] []) _ X.xe s1
    refine method_meetsIn F.slot_dict_items F.entry_dict_items rfl (PySem.evalArgs_none ⟨rfl, hdo.typeIs, F.args_dict_items_1 _, _, meets_dict_items (mixKind X.prog X.w) d hs0, ⟨vs, hdo⟩, ?_⟩)
    have sz : (s1.heap.push { cls := .type "dict_items", data := .fields #[.ref d] }).objs.size = s1.heap.objs.size + 1 := Heap.size_push ..
    have := go _ H1 W S d ws vs kvs ys ep I2 wd rk kv hz (by
      show (s1.heap.push _).IsItemsView ((s1.heap.push { cls := .type "dict_items", data := .fields #[.ref d] }).objs.size - 1) d
      rw [sz]
      exact ⟨_, Heap.get?_push_size _ rfl, rfl, rfl⟩) (by show 0 < (s1.heap.push _).objs.size; rw [Heap.size_push]; exact Nat.succ_pos _) (hat.push _) ey q
    have e2 : (s1.heap.push { cls := .type "dict_items", data := .fields #[.ref d] }).objs.size - 1 = s1.heap.objs.size := by rw [sz]; rfl
    rw [e2] at this
    exact this
  cases srt with
  | false =>
    refine ⟨fun pins s σ H Q I hq => ?_⟩
    refine wpAny_Call_Name_kw (ld_blt I hg hm (by decide +kernel : bootBuiltins (Str.ofString "list") = some (.type "list")) ?_)
    refine PyProof.Rows.callWith_type1 ?_ hs rfl
    rw [hs]
    show wpAny _ _ (spliced ((false, eval (.Call (.Attribute e "items" apos) [] [] cpos) X.env) :: backTo pos (starEach [] X.env))) _ _ s
    refine Calls.spliced_cons (view I hq fun s1 H1 W S d ws vs kvs ys ep I1 wd rk kv hz hv h0 hat ey q => ?_)
    have ey : itmD kvs = ys := by simpa using ey
    subst ey
    refine Calls.spliced_nil ?_
    have lk : ws.length = vs.length := Paired.length kv
    refine PySem.W.kdx_call (knd := mixKind X.prog X.w) (kvs := vs) (ep := ep) (I1.ok.hd hc) hv hat (by omega) fun h' tk acc c as hk hS hl hG hacc => ?_
    obtain ⟨N, n1, n2, n3, n4⟩ := items_new I1 wd kv rk hk hl hG (Nat.le_refl _)
    have nd : as.Nodup := List.Pairwise.imp (fun {a b} (h : a < b) => Nat.ne_of_lt h) hG.rise
    have hN : ∀ p ∈ N, H1 p.1 = none := fun p hp => I1.hok.fresh (n2 p hp)
    have sN : ∀ p ∈ N, p.1 ≠ s1.heap.objs.size := fun p hp z => by
      have m : p.1 ∈ as := by
        rw [← n1]
        exact List.mem_map.mpr ⟨p, hp, rfl⟩
      have := hG.above _ m
      rw [z] at this
      exact absurd this (Nat.lt_irrefl _)
    have nS : H1 s1.heap.objs.size = none := I1.hok.fresh (Nat.le_refl _)
    -- the list and its tuples
    have nd' : (((s1.heap.objs.size, HO.lst (as.map V.ref)) :: N).map (·.1)).Nodup := by
      rw [List.map_cons, List.nodup_cons, n1]
      refine ⟨fun z => ?_, nd⟩
      have := hG.above _ z
      exact absurd this (Nat.lt_irrefl _)
    have Inew : Inv X pins σ (putH H1 ((s1.heap.objs.size, .lst (as.map V.ref)) :: N)) { s1 with heap := h', toks := tk } := laidMany I1 hk (fun p hp => by
      rcases List.mem_cons.mp hp with z | hp
      · rw [z]
        exact Nat.le_refl _
      · exact n2 p hp) fun p hp => by
      rcases List.mem_cons.mp hp with z | hp
      · subst z
        refine ⟨by rw [List.length_map]; omega, acc.toList, c, by rw [hacc]; exact LiI.vals_refs as, ?_⟩
        rw [Array.toArray_toList]
        exact hS
      · exact n3 p hp _
    obtain ⟨W', le', wd', eρ, f1, f2⟩ := wd.pureMany (N := N) hN (by rw [n1]; exact nd)
    have nS' : putH H1 N s1.heap.objs.size = none := by rw [putH_none sN]; exact nS
    have eH : putH H1 ((s1.heap.objs.size, .lst (as.map V.ref)) :: N) = upd (putH H1 N) s1.heap.objs.size (.lst (as.map V.ref)) := by
      funext b
      unfold putH upd
      rw [List.find?_cons]
      by_cases hb : s1.heap.objs.size = b
      · simp [hb]
      · simp only [hb, decide_false]
        rw [if_neg (Ne.symm hb)]
    rw [eH] at Inew
    refine ⟨.ref s1.heap.objs.size, _, Inew, rfl, q W' s1.heap.objs.size (as.map V.ref) _ le' (wd'.junk nS') (wd'.freeF nS') (wd'.notin nS') (wd'.freeG nS') upd_same (n4 (putH H1 N) (fun p hp => putH_at (by rw [n1]; exact nd) hp) W' le' f1)⟩
  | true =>
    refine ⟨fun pins s σ H Q I hq => ?_⟩
    refine wpAny_Call_Name_kw (ld_blt I hg hm (by decide +kernel : bootBuiltins (Str.ofString "sorted") = some (.builtin "sorted")) ?_)
    refine Calls.callWith_builtin rfl (Calls.evalArgs_plain ?_)
    refine Calls.spliced_cons (view I hq fun s1 H1 W S d ws vs kvs ys ep I1 wd rk kv hz hv h0 hat ey q => ?_)
    have ey : sortD (itmD kvs) = some ys := by simpa using ey
    refine Calls.spliced_nil ?_
    have lk : ws.length = vs.length := Paired.length kv
    refine Calls.call_function_entry PyProof.Rows.kind_sorted PyProof.Rows.plain_sorted PyProof.Rows.entry_sorted (PyProof.Rows.args_sorted1 _) ?_
    unfold Builtin.«sorted»
    refine wpAny_bind (m := checkCount "sorted" 1 1 _) (wpAny_pure ?_)
    refine wpAny_bind (PySem.W.kdx_collect (A := X.A.in1) (knd := mixKind X.prog X.w) (kvs := vs) (ep := ep) (I1.ok.hd hc) hv hat (by omega) fun h' tk as hk hl hG => ?_)
    obtain ⟨N, n1, n2, n3, n4⟩ := items_new I1 wd kv rk hk hl hG (Nat.le_refl _)
    have nd : as.Nodup := List.Pairwise.imp (fun {a b} (h : a < b) => Nat.ne_of_lt h) hG.rise
    have hN : ∀ p ∈ N, H1 p.1 = none := fun p hp => I1.hok.fresh (n2 p hp)
    obtain ⟨W', le', wd', eρ, f1, f2⟩ := wd.pureMany (N := N) hN (by rw [n1]; exact nd)
    have Inew : Inv X pins σ (putH H1 N) { s1 with heap := h', toks := tk } := laidMany I1 hk n2 fun p hp => n3 p hp _
    have rp := n4 (putH H1 N) (fun p hp => putH_at (by rw [n1]; exact nd) hp) W' le' f1
    refine wpAny_bind (wpAny_newList ?_ (by rw [List.length_map]; omega))
    refine wpAny_bind (wpAny_holding (wpAny_mono (sort_new (s := s1) (Q := Q) hu Inew (LiI.vals_refs as) wd' rp ey (by rw [List.length_map]; omega) fun p zs hn rz => ?_) (fun _ s2 h => wpAny_pure ⟨_, rfl, h⟩) fun _ _ h => h))
    exact q W' p zs _ le' (wd'.junk hn) (wd'.freeF hn) (wd'.notin hn) (wd'.freeG hn) upd_same rz
end
end PV

/-! PV15: every term that agrees with the text is sound. -/
namespace PV
open PySem PySem.Spec PyProof.Rows L2
def isNew : Ex → Bool
  | .lst _ => true
  | .comp _ _ _ _ => true
  | .lrg _ => true
  | .lrg2 _ _ => true
  | .its _ _ => true
  | .blt b _ => b == .list || b == .sorted
  | _ => false
def isNewD : Ex → Bool
  | .dnew => true
  | .d1 _ _ => true
  | .dcomp _ _ _ _ _ => true
  | .blt b _ => b == .dict
  | _ => false
section
variable {nm : Nm} {Φ : List Fs} {Γ : List PyData} {lv : Nat}
/-- a dict that was walked is let go -/
theorem un_go {X : Cx} {W W1 : Wo} {w : Option Nat} {S1 S2 : Sto} (le1 : Le W W1) (un : UnL (NF X) W W1 w S1) (hL : ckB w S1 S2 = true) {W2 : Wo} {H2 : Hp} (le2 : Le W1 W2) (wd2 : Wd X.K W2 H2 S2) :
    unlF w S2 = S2 ∨ ∃ a od u W3, W3.F = W2.F ∧ W3.ρ = W2.ρ ∧ W3.G = W2.G ∧ Le W W3 ∧ a ∈ W2.ρ ∧ H2 a = some (.frz od u) ∧ NF X a ∧ Wd X.K W3 (upd H2 a u) (unlF w S2) := by
  cases w with
  | none => exact .inl rfl
  | some k =>
    cases e2 : S2[k]? with
    | none => exact .inl (by simp only [unlF, e2])
    | some ob =>
      cases ob with
      | lst xs fz => exact .inl (by simp only [unlF, e2])
      | ins c fs => exact .inl (by simp only [unlF, e2])
      | dic kvs fz lk =>
        have hd := ckB_some hL
        have e3 : deref S2 (.obj k) = some (.dict kvs) := by simp only [deref, e2]
        rw [e3] at hd
        have hs : ∃ fz1 lk1, S1[k]? = some (.dic kvs fz1 lk1) := by
          have hd := hd.symm
          unfold deref at hd
          simp only at hd
          split at hd
          · cases hd
          · rename_i e
            cases hd
            exact ⟨_, _, e⟩
          · cases hd
        obtain ⟨fz1, lk1, es⟩ := hs
        obtain ⟨a, od, vs, g1, g2, g3, g4⟩ := un k _ _ _ rfl es
        have h1 : W2.ρ[k]? = some a := le2.get g1
        have h2 := le2.L _ _ g2
        obtain ⟨hp, wd3⟩ := wd2.unlock (L := fun b => if b = a then none else W2.L b) h1 h2 (fun b u e => by
          split at e
          · cases e
          · exact e) (by simp)
        refine .inr ⟨a, od, _, ⟨W2.F, W2.ρ, W2.G, fun b => if b = a then none else W2.L b⟩, rfl, rfl, rfl, ?_, List.mem_of_getElem? h1, hp, g3, wd3⟩
        have l := le1.trans le2
        refine ⟨l.F, l.ρ, l.G, fun b u e => ?_⟩
        have nb : b ≠ a := fun z => by
          rw [z, g4] at e
          cases e
        show (if b = a then none else W2.L b) = some u
        rw [if_neg nb]
        exact l.L b u e
theorem un_N {X : Cx} {W W1 : Wo} {w : Option Nat} {S1 S2 : Sto} {ds : List PyData} {Q : VK} (le1 : Le W W1) (un : UnL (NF X) W W1 w S1) (hL : ckB w S1 S2 = true) (q : KtN X.K W (unlF w S2) ds Q) : KtN X.K W1 S2 ds (UN X Q) := fun W2 p vs H2 le2 wd2 nF nr nG hp r => by
  rcases un_go le1 un hL le2 wd2 with e | ⟨a, od, u, W3, eF, eρ, eG, le3, ha, hpa, nf, wd3⟩
  · rw [e] at q
    exact .inl (q W2 p vs H2 (le1.trans le2) wd2 nF nr nG hp r)
  · refine .inr ⟨a, od, u, hpa, nf, q W3 p vs _ le3 wd3 (by rw [eF]; exact nF) (by rw [eρ]; exact nr) (by rw [eG]; exact nG) ?_ (by rw [eF]; exact r)⟩
    rw [upd_ne fun z => nr (by rw [z]; exact ha)]
    exact hp
theorem un_ND {X : Cx} {W W1 : Wo} {w : Option Nat} {S1 S2 : Sto} {ds : List (PyData × PyData)} {Q : VK} (le1 : Le W W1) (un : UnL (NF X) W W1 w S1) (hL : ckB w S1 S2 = true) (q : KtND X.K W (unlF w S2) ds Q) : KtND X.K W1 S2 ds (UN X Q) := fun W2 p vs H2 le2 wd2 nF nr nG hp r => by
  rcases un_go le1 un hL le2 wd2 with e | ⟨a, od, u, W3, eF, eρ, eG, le3, ha, hpa, nf, wd3⟩
  · rw [e] at q
    exact .inl (q W2 p vs H2 (le1.trans le2) wd2 nF nr nG hp r)
  · refine .inr ⟨a, od, u, hpa, nf, q W3 p vs _ le3 wd3 (by rw [eF]; exact nF) (by rw [eρ]; exact nr) (by rw [eG]; exact nG) ?_ (by rw [eF]; exact r)⟩
    rw [upd_ne fun z => nr (by rw [z]; exact ha)]
    exact hp
/-- a list comprehension -/
theorem c_compN {X : Cx} (at_ : At nm Φ Γ lv X) {t : Tg} {it : Itx} {ifs : Exs} {e : Ex} {x tg iter : Expr} {cs : List Expr} {scope : Scope} {pos : Pos} (hb : blkC X.N X.env.scope scope (ownOf X.N t.slots) = true) (hi : PI X tg iter (rdI X.K Φ Γ (NF X) it))
    (hg : ∀ (s : Shared) (H : Hp) (C : Addr) (cl : List (Str × Addr)) (fp : List Addr), PG (X.blk s H scope (compEnvC scope cl C X.env) fp) tg (rdG X.K Φ Γ t))
    (ht : ∀ (s : Shared) (H : Hp) (C : Addr) (cl : List (Str × Addr)) (fp : List Addr), PTs (X.blk s H scope (compEnvC scope cl C X.env) fp) cs (rdTs X.K Φ Γ ifs))
    (he : ∀ (s : Shared) (H : Hp) (C : Addr) (cl : List (Str × Addr)) (fp : List Addr), PE (X.blk s H scope (compEnvC scope cl C X.env) fp) x (rdE X.K Φ Γ e)) (hs : ∀ x, foldedSetIterable iter X.env x = pure x) :
    (∀ σ H Q, rdN X.K Φ Γ (.comp t it ifs e) σ H Q → tLc (rdI X.K Φ Γ (NF X) it) (rdG X.K Φ Γ t) (rdTs X.K Φ Γ ifs) (rdE X.K Φ Γ e) ((ownOf X.N t.slots).map (·.2)) σ H (UN X Q)) ∧ PE X (.ListComp x [⟨tg, iter, cs, 0⟩] scope pos) (rdN X.K Φ Γ (.comp t it ifs e)) := by
  have key : ∀ σ H Q, rdN X.K Φ Γ (.comp t it ifs e) σ H Q → tLc (rdI X.K Φ Γ (NF X) it) (rdG X.K Φ Γ t) (rdTs X.K Φ Γ ifs) (rdE X.K Φ Γ e) ((ownOf X.N t.slots).map (·.2)) σ H (UN X Q) := fun σ H Q ⟨W, env, S, ds, S', wd, re, ee, q⟩ => by
    have eo : (ownOf X.N t.slots).map (·.2) = t.slots := by
      unfold ownOf
      rw [List.map_map]
      simp [Function.comp_def]
    rw [eo]
    simp only [ev] at ee
    split at ee
    · cases ee
    · rename_i xs w S1 e1
      split at ee
      · cases ee
      · rename_i ys S2 e2
        cases ee
        refine ⟨W, env, S, xs, w, S1, wd, re, e1, fun W1 J H1 le1 wd1 wk un D hD => ?_⟩
        refine lc_run (S2 := S2) (ys := ds) wd1 wk (ckB_self _ _) (fun _ _ _ _ z => (watC_some z).2) hD e2 (fun W2 H2 Sa Sb v d o Q1 Q2 lx wd2 rd ef q1 q2 => ?_) (fun hl => un_N le1 un hl q)
        have ef := (watC_some ef).1
        have lxx : Lx W W2 := le1.x.trans lx
        have re2 : Re X.K W2 (wipe σ t.slots) (wipeE env t.slots) := (re.lx lxx).wipe _
        split at ef
        · cases ef
        · rename_i env1 S3 eb
          refine ⟨W2, _, _, Sa, env1, S3, wd2, re2, rd, eb, fun W3 σ3 H3 le3 wd3 re3 w3 => ?_⟩
          refine ⟨by rw [w3, wipe_idem], ?_⟩
          split at ef
          · cases ef
          · rename_i S4 et
            cases ef
            exact ⟨W3, env1, S3, false, _, wd3, re3, et, fun W4 H4 le4 wd4 => iteF (q1 rfl W4 H4 (le3.trans le4) wd4)⟩
          · rename_i S4 et
            refine ⟨W3, env1, S3, true, S4, wd3, re3, et, fun W4 H4 le4 wd4 => iteT ?_⟩
            split at ef
            · cases ef
            · rename_i y S5 ey
              split at ef
              · cases ef
              · rename_i z S6 ez
                cases ef
                refine ⟨W4, env1, S4, y, S5, wd4, re3.le le4, ey, fun W5 v5 H5 le5 wd5 r5 => ?_⟩
                obtain ⟨W6, le6, eρ, wd6, r6⟩ := wd5.frz r5 ez
                exact q2 z rfl W6 v5 H5 (((le3.trans le4).trans le5).trans le6) wd6 r6
  exact ⟨key, PE_imp (pe_unl (pe_lc at_.calm at_.nd hi (blkOk_by hb) hg ht he hs)) key⟩
/-- a dict comprehension -/
theorem c_dcompN {X : Cx} (at_ : At nm Φ Γ lv X) {t : Tg} {it : Itx} {ifs : Exs} {k e : Ex} {y x tg iter : Expr} {cs : List Expr} {scope : Scope} {pos : Pos} (hb : blkC X.N X.env.scope scope (ownOf X.N t.slots) = true) (hi : PI X tg iter (rdI X.K Φ Γ (NF X) it))
    (hg : ∀ (s : Shared) (H : Hp) (C : Addr) (cl : List (Str × Addr)) (fp : List Addr), PG (X.blk s H scope (compEnvC scope cl C X.env) fp) tg (rdG X.K Φ Γ t))
    (ht : ∀ (s : Shared) (H : Hp) (C : Addr) (cl : List (Str × Addr)) (fp : List Addr), PTs (X.blk s H scope (compEnvC scope cl C X.env) fp) cs (rdTs X.K Φ Γ ifs))
    (hk : ∀ (s : Shared) (H : Hp) (C : Addr) (cl : List (Str × Addr)) (fp : List Addr), PE (X.blk s H scope (compEnvC scope cl C X.env) fp) y (rdE X.K Φ Γ k))
    (he : ∀ (s : Shared) (H : Hp) (C : Addr) (cl : List (Str × Addr)) (fp : List Addr), PE (X.blk s H scope (compEnvC scope cl C X.env) fp) x (rdE X.K Φ Γ e)) (hs : ∀ x, foldedSetIterable iter X.env x = pure x) :
    (∀ σ H Q, rdND X.K Φ Γ (.dcomp t it ifs k e) σ H Q → tDc (rdI X.K Φ Γ (NF X) it) (rdG X.K Φ Γ t) (rdTs X.K Φ Γ ifs) (rdE X.K Φ Γ k) (rdE X.K Φ Γ e) ((ownOf X.N t.slots).map (·.2)) σ H (UN X Q)) ∧ PE X (.DictComp y x [⟨tg, iter, cs, 0⟩] scope pos) (rdND X.K Φ Γ (.dcomp t it ifs k e)) := by
  have key : ∀ σ H Q, rdND X.K Φ Γ (.dcomp t it ifs k e) σ H Q → tDc (rdI X.K Φ Γ (NF X) it) (rdG X.K Φ Γ t) (rdTs X.K Φ Γ ifs) (rdE X.K Φ Γ k) (rdE X.K Φ Γ e) ((ownOf X.N t.slots).map (·.2)) σ H (UN X Q) := fun σ H Q ⟨W, env, S, ds, S', wd, re, ee, q⟩ => by
    have eo : (ownOf X.N t.slots).map (·.2) = t.slots := by
      unfold ownOf
      rw [List.map_map]
      simp [Function.comp_def]
    rw [eo]
    simp only [ev] at ee
    split at ee
    · cases ee
    · rename_i xs w S1 e1
      split at ee
      · cases ee
      · rename_i ys S2 e2
        cases ee
        refine ⟨W, env, S, xs, w, S1, wd, re, e1, fun W1 J H1 le1 wd1 wk un D hD => ?_⟩
        refine dc_run (S2 := S2) (ys := ds) wd1 wk (ckB_self _ _) (fun _ _ _ _ z => (watC_some z).2) hD e2 (fun W2 H2 Sa Sb v d o Q1 Q2 lx wd2 rd ef ks q1 q2 => ?_) (fun hl => un_ND le1 un hl q)
        have ef := (watC_some ef).1
        have lxx : Lx W W2 := le1.x.trans lx
        have re2 : Re X.K W2 (wipe σ t.slots) (wipeE env t.slots) := (re.lx lxx).wipe _
        split at ef
        · cases ef
        · rename_i env1 S3 eb
          refine ⟨W2, _, _, Sa, env1, S3, wd2, re2, rd, eb, fun W3 σ3 H3 le3 wd3 re3 w3 => ?_⟩
          refine ⟨by rw [w3, wipe_idem], ?_⟩
          split at ef
          · cases ef
          · rename_i S4 et
            cases ef
            exact ⟨W3, env1, S3, false, _, wd3, re3, et, fun W4 H4 le4 wd4 => iteF (q1 rfl W4 H4 (le3.trans le4) wd4)⟩
          · rename_i S4 et
            refine ⟨W3, env1, S3, true, S4, wd3, re3, et, fun W4 H4 le4 wd4 => iteT ?_⟩
            split at ef
            · rename_i dk S5 ek
              split at ef
              · cases ef
              · rename_i b S6 eb2
                split at ef
                · cases ef
                · rename_i z S7 ez
                  cases ef
                  refine ⟨W4, env1, S4, .d dk, S5, wd4, re3.le le4, ek, fun W5 v5 H5 le5 wd5 r5 => ?_⟩
                  refine ⟨W5, env1, S5, b, S6, wd5, (re3.le le4).le le5, eb2, fun W6 v6 H6 le6 wd6 r6 => ?_⟩
                  obtain ⟨W7, le7, eρ, wd7, r7⟩ := wd6.frz r6 ez
                  obtain ⟨ky, hky⟩ := Option.isSome_iff_exists.mp (ks _ rfl)
                  have ev5 : v5 = kV ky := keyD_kV hky r5
                  subst ev5
                  exact q2 _ ky rfl hky W7 v6 H6 (((((le3.trans le4).trans le5).trans le6)).trans le7) wd7 r7
            · cases ef
  exact ⟨key, PE_imp (pe_unl (pe_dc at_.calm at_.nd hi (blkOk_by hb) hg ht hk he hs)) key⟩
theorem comp_d {t : Tg} {it : Itx} {ifs : Exs} {e : Ex} {env : En} {S S' : Sto} {a : A} (h : ev Φ Γ (.comp t it ifs e) env S = some (a, S')) : ∃ ds, a = .d (.list ds) := by
  simp only [ev] at h
  split at h
  · cases h
  · split at h
    · cases h
    · cases h
      exact ⟨_, rfl⟩
theorem dcomp_d {t : Tg} {it : Itx} {ifs : Exs} {k e : Ex} {env : En} {S S' : Sto} {a : A} (h : ev Φ Γ (.dcomp t it ifs k e) env S = some (a, S')) : ∃ ds, a = .d (.dict ds) := by
  simp only [ev] at h
  split at h
  · cases h
  · split at h
    · cases h
    · cases h
      exact ⟨_, rfl⟩
theorem dnew_d {env : En} {S S' : Sto} {a : A} (h : ev Φ Γ .dnew env S = some (a, S')) : ∃ ds, a = .d (.dict ds) := by
  simp only [ev] at h
  cases h
  exact ⟨_, rfl⟩
theorem d1_d {k e : Ex} {env : En} {S S' : Sto} {a : A} (h : ev Φ Γ (.d1 k e) env S = some (a, S')) : ∃ ds, a = .d (.dict ds) := by
  simp only [ev] at h
  split at h
  · split at h
    · cases h
    · split at h
      · split at h
        · cases h
          exact ⟨_, rfl⟩
        · cases h
      · cases h
  · cases h
theorem its_d {srt : Bool} {o : Ex} {env : En} {S S' : Sto} {a : A} (h : ev Φ Γ (.its srt o) env S = some (a, S')) : ∃ ds, a = .d (.list ds) := by
  simp only [ev] at h
  split at h
  · cases h
  · split at h
    · split at h
      · rename_i kvs _ _
        cases e2 : sortD (itmD kvs) with
        | none =>
          rw [e2] at h
          cases h
        | some xs =>
          rw [e2] at h
          cases h
          exact ⟨_, rfl⟩
      · cases h
        exact ⟨_, rfl⟩
    · cases h
theorem lrg2_d {e f : Ex} {env : En} {S S' : Sto} {a : A} (h : ev Φ Γ (.lrg2 e f) env S = some (a, S')) : ∃ ds, a = .d (.list ds) := by
  simp only [ev] at h
  split at h
  · rename_i i S1 e1
    split at h
    · rename_i j S2 e3
      cases e2 : rngF i j with
      | none =>
        rw [e2] at h
        cases h
      | some xs =>
        rw [e2] at h
        cases h
        exact ⟨_, rfl⟩
    · cases h
  · cases h
theorem bltd_d {es : Exs} {env : En} {S S' : Sto} {a : A} (h : ev Φ Γ (.blt .dict es) env S = some (a, S')) : ∃ ds, a = .d (.dict ds) := by
  simp only [ev] at h
  split at h
  · cases h
  · rename_i as S1 e1
    cases e2 : bltF .dict as S1 with
    | none =>
      rw [e2] at h
      cases h
    | some c =>
      rw [e2] at h
      cases h
      unfold bltF at e2
      split at e2
      · split at e2
        · cases e2
        · simp only [Option.map_eq_some_iff, Option.bind_eq_some_iff] at e2
          obtain ⟨y, ⟨z, e4, e3⟩, rfl⟩ := e2
          unfold bltD at e3
          simp only at e3
          split at e3
          · rename_i xs
            cases e5 : pairsD xs with
            | none =>
              rw [e5] at e3
              cases e3
            | some w =>
              rw [e5] at e3
              cases e3
              exact ⟨_, rfl⟩
          · rename_i xs
            cases e5 : pairsD xs with
            | none =>
              rw [e5] at e3
              cases e3
            | some w =>
              rw [e5] at e3
              cases e3
              exact ⟨_, rfl⟩
          · cases e3
            exact ⟨_, rfl⟩
          · cases e3
      · rename_i x y
        simp [bltD2] at e2
      · cases e2
theorem bltl_d {b : Bl} (hb : b = .list ∨ b = .sorted) {es : Exs} {env : En} {S S' : Sto} {a : A} (h : ev Φ Γ (.blt b es) env S = some (a, S')) : ∃ ds, a = .d (.list ds) := by
  simp only [ev] at h
  split at h
  · cases h
  · rename_i as S1 e1
    cases e2 : bltF b as S1 with
    | none =>
      rw [e2] at h
      cases h
    | some c =>
      rw [e2] at h
      cases h
      have go : ∀ z y, bltD b z = some y → ∃ ds, y = .list ds := fun z y e => by
        rcases hb with rfl | rfl
        · unfold bltD at e
          simp only at e
          split at e <;> first | (cases e; exact ⟨_, rfl⟩) | cases e
        · unfold bltD at e
          simp only at e
          split at e
          · rename_i xs
            cases e5 : sortD xs with
            | none =>
              rw [e5] at e
              cases e
            | some w =>
              rw [e5] at e
              cases e
              exact ⟨_, rfl⟩
          · rename_i kvs
            split at e
            · cases e5 : sortD (kvs.map (·.1)) with
              | none =>
                rw [e5] at e
                cases e
              | some w =>
                rw [e5] at e
                cases e
                exact ⟨_, rfl⟩
            · cases e
          · cases e
      unfold bltF at e2
      split at e2
      · split at e2
        · split at e2
          · cases e2
            exact ⟨_, rfl⟩
          · cases e2
        · simp only [Option.map_eq_some_iff, Option.bind_eq_some_iff] at e2
          obtain ⟨y, ⟨z, e4, e3⟩, rfl⟩ := e2
          obtain ⟨ds, rfl⟩ := go z y e3
          exact ⟨_, rfl⟩
      · rcases hb with rfl | rfl <;> simp [bltD2] at e2
      · cases e2
theorem rpA_rg2 {K : PySem.W.Frag} {F : Hp} (m n : Int) : RpA K F (rgV m n) (rngD m (n - m).toNat) := by
  have go : ∀ (l : List Nat), RpA K F (l.map fun i => V.int (m + (i : Nat))) (l.map fun k => PyData.int (m + (k : Nat))) := fun l => by
    induction l with
    | nil => exact .nil
    | cons x l ih => exact .cons (.int _) ih
  exact go _
theorem c_lrg2N {X : Cx} (at_ : At nm Φ Γ lv X) {a b : Ex} {y z : Expr} {p1 p2 p3 pos : Pos} (h1 : isGl X.env.scope "list" = true) (h2 : isGl X.env.scope "range" = true) (hs : notSt y = true) (hs2 : notSt z = true) (ha : PE X y (rdE X.K Φ Γ a)) (hb : PE X z (rdE X.K Φ Γ b)) : PE X (.Call (.Name "list" p1) [.Call (.Name "range" p2) [y, z] [] p3] [] pos) (rdN X.K Φ Γ (.lrg2 a b)) := by
  refine PE_imp (pe_listRg at_.calm (isGl_ok h1) (at_.blt _ (by decide)) (prg_2 (isGl_ok h2) (at_.blt _ (by decide)) ha hb (star_of hs _ _) (star_of hs2 _ _) (back_of (es := [z]) _ _ (by simp [allSt, hs2]))) rfl) fun σ H Q ⟨W, env, S, ds, S', wd, re, e, q⟩ => ?_
  simp only [ev] at e
  split at e
  · rename_i i S1 e1
    split at e
    · rename_i j S2 e2
      unfold rngF at e
      split at e
      · rename_i hb
        cases e
        refine ⟨W, env, S, _, S1, wd, re, e1, fun W1 v1 H1 le1 wd1 r1 => ?_⟩
        refine ⟨W1, env, S1, _, S', wd1, re.le le1, e2, fun W2 v2 H2 le2 wd2 r2 => ?_⟩
        cases r1
        cases r2
        refine ⟨i, j, rfl, rfl, ⟨hb.1.1, hb.1.2.1, hb.1.2.2.1, hb.1.2.2.2, hb.2⟩, fun p hn => ?_⟩
        exact q W2 p _ _ (le1.trans le2) (wd2.junk hn) (wd2.freeF hn) (wd2.notin hn) (wd2.freeG hn) upd_same (rpA_rg2 i j)
      · cases e
    · cases e
  · cases e
theorem its_dk {K : PySem.W.Frag} {W : Wo} {H : Hp} {S : Sto} {v : V} {a : A} {kvs : List (PyData × PyData)} (wd : Wd K W H S) (r : Ra K W v a) (e : deref S a = some (.dict kvs)) : ∃ p ws, v = .ref p ∧ Rd H p (.dK ws) ∧ RpK K W.F ws kvs := by
  obtain ⟨p, vs, ep, h1, r1⟩ := (wd.deref r e).dict wd.sub
  exact ⟨p, vs, ep, h1, r1⟩
/-- list(d.items()), sorted(d.items()) -/
theorem c_itsN {X : Cx} (at_ : At nm Φ Γ lv X) {srt : Bool} {o : Ex} {y : Expr} {p apos cpos pos : Pos} (h1 : isGl X.env.scope (if srt = true then "sorted" else "list") = true) (hb : notCall y = true) (hl : (apos.endLine == cpos.line) = true) (ho : PE X y (rdE X.K Φ Γ o)) : PE X (.Call (.Name (if srt = true then "sorted" else "list") p) [.Call (.Attribute y "items" apos) [] [] cpos] [] pos) (rdN X.K Φ Γ (.its srt o)) := by
  refine PE_imp (pe_its at_.calm at_.hu ho (isGl_ok h1) (at_.blt _ (by cases srt <;> decide)) (by cases y <;> first | rfl | cases hb) hl) fun σ H Q ⟨W, env, S, ds, S', wd, re, e, q⟩ => ?_
  simp only [ev] at e
  split at e
  · cases e
  · rename_i a S1 e1
    split at e
    · rename_i kvs ed
      refine ⟨W, env, S, a, S1, wd, re, e1, fun W1 v1 H1 le1 wd1 r1 => ?_⟩
      have ey : (if srt = true then sortD (itmD kvs) else some (itmD kvs)) = some ds ∧ S' = S1 := by
        cases srt with
        | false =>
          cases e
          exact ⟨rfl, rfl⟩
        | true =>
          simp only [if_true] at e ⊢
          cases e2 : sortD (itmD kvs) with
          | none =>
            rw [e2] at e
            cases e
          | some xs =>
            rw [e2] at e
            cases e
            exact ⟨rfl, rfl⟩
      obtain ⟨ey, rfl⟩ := ey
      obtain ⟨p, ws, hp, hr, rk⟩ := its_dk wd1 r1 ed
      subst hp
      exact ⟨W1, S', p, ws, kvs, ds, wd1, rfl, hr, rk, ey, fun W' p' vs' H' le' => q W' p' vs' H' (le1.trans le')⟩
    · cases e
theorem lrg_d {e : Ex} {env : En} {S S' : Sto} {a : A} (h : ev Φ Γ (.lrg e) env S = some (a, S')) : ∃ ds, a = .d (.list ds) := by
  simp only [ev] at h
  split at h
  · rename_i j S1 e1
    cases e2 : rngF 0 j with
    | none =>
      rw [e2] at h
      cases h
    | some xs =>
      rw [e2] at h
      cases h
      exact ⟨_, rfl⟩
  · cases h
theorem lst_d {es : Exs} {env : En} {S S' : Sto} {a : A} (h : ev Φ Γ (.lst es) env S = some (a, S')) : ∃ ds, a = .d (.list ds) := by
  simp only [ev] at h
  split at h
  · cases h
  · split at h
    · cases h
      exact ⟨_, rfl⟩
    · cases h
theorem allSt_of : ∀ {es : Exs} {xs : List Expr} {N : List Str} {sc : Scope} {ow : Str → Bool}, agEs nm N sc ow es xs = true → allSt xs = true
  | .nil, [], _, _, _, _ => rfl
  | .nil, _ :: _, _, _, _, h => by simp [agEs] at h
  | .cons _ _, [], _, _, _, h => by simp [agEs] at h
  | .cons _ es, x :: xs, _, _, _, h => by
    simp only [agEs, Bool.and_eq_true] at h
    simp only [allSt, Bool.and_eq_true]
    exact ⟨h.1.1, allSt_of h.2⟩
theorem relS_at {X : Cx} (s : Shared) (H : Hp) (scope : Scope) (C : Addr) (cl : List (Str × Addr)) (fp : List Addr) : (X.blk s H scope (compEnvC scope cl C X.env) fp).env.scope = relS scope X.env.scope := rfl
theorem rfl_t {x : Expr} {env : Env} (h : ∀ whole, isTrue x env whole = (do let v ← whole; standAt x.pos; holding [v] (truthy v))) : ∀ whole, isTrue x env whole = (do let v ← whole; standAt x.pos; holding [v] (truthy v)) := h
/-- the three readings of a term -/
def S3 (Φ : List Fs) (Γ : List PyData) (X : Cx) (e : Ex) (x : Expr) : Prop := PE X x (rdE X.K Φ Γ e) ∧ PT X x (rdT X.K Φ Γ e) ∧ (isNew e = true → PE X x (rdN X.K Φ Γ e)) ∧ (isNewD e = true → PE X x (rdND X.K Φ Γ e))
theorem s3_val {X : Cx} {e : Ex} {x : Expr} (hn : isNew e = false ∧ isNewD e = false) (hp : ∀ whole, isTrue x X.env whole = (do let v ← whole; standAt x.pos; holding [v] (truthy v))) (h : PE X x (rdE X.K Φ Γ e)) : S3 Φ Γ X e x :=
  ⟨h, t_val h hp, (fun h' => by rw [hn.1] at h'; cases h'), (fun h' => by rw [hn.2] at h'; cases h')⟩
/-- the readings of terms in a row -/
def S7 (Φ : List Fs) (Γ : List PyData) (X : Cx) (es : Exs) (xs : List Expr) : Prop := PA X xs (rdA X.K Φ Γ es) ∧ (∀ pos, PE X (.BoolOp .And xs pos) (rdAnd X.K Φ Γ es)) ∧ (∀ pos, PE X (.BoolOp .Or xs pos) (rdOr X.K Φ Γ es)) ∧ (∀ pos, PW X (.BoolOp .And xs pos) (rdTAnd X.K Φ Γ es)) ∧ (∀ pos, PW X (.BoolOp .Or xs pos) (rdTOr X.K Φ Γ es)) ∧ PTs X xs (rdTs X.K Φ Γ es)
theorem s7_nil {X : Cx} : S7 Φ Γ X .nil [] := by
  refine ⟨a_nil, fun pos => ⟨fun pins s σ H Q I ⟨W, env, S, a, S', wd, re, e, q⟩ => ?_⟩, fun pos => ⟨fun pins s σ H Q I ⟨W, env, S, a, S', wd, re, e, q⟩ => ?_⟩, fun pos => ⟨fun wh pins s σ H Q I ⟨W, env, S, a, S', k, wd, re, e, et, q⟩ => ?_⟩, fun pos => ⟨fun wh pins s σ H Q I ⟨W, env, S, a, S', k, wd, re, e, et, q⟩ => ?_⟩, ⟨fun pins s σ H Q I ⟨W, env, S, k, S', wd, re, e, q⟩ => ?_⟩⟩
  · simp [evAnd] at e
  · simp [evOr] at e
  · simp [evAnd] at e
  · simp [evOr] at e
  · simp only [evTs] at e
    cases e
    exact pts_nil.run pins s σ H Q I (q W H (.refl W) wd)
theorem s7_cons {X : Cx} {e : Ex} {es : Exs} {x : Expr} {xs : List Expr} (hs : notSt x = true) (hn : (es.isNil = true ∧ xs = []) ∨ ∃ e' es' x' xs', es = .cons e' es' ∧ xs = x' :: xs') (h : S3 Φ Γ X e x) (h' : S7 Φ Γ X es xs) : S7 Φ Γ X (.cons e es) (x :: xs) := by
  obtain ⟨p1, p2, p3, p4, p5, p6⟩ := h'
  refine ⟨a_cons hs h.1 p1, ?_⟩
  rcases hn with ⟨hn, rfl⟩ | ⟨e', es', x', xs', rfl, rfl⟩
  · cases es with
    | cons _ _ => cases hn
    | nil =>
      refine ⟨fun pos => and_one h.1, fun pos => or_one h.1, fun pos => t_and_one h.2.1, fun pos => t_or_one h.2.1, ⟨fun pins s σ H Q I ⟨W, env, S, k, S', wd, re, e, q⟩ => ?_⟩⟩
      simp only [evTs] at e
      split at e
      · cases e
      · rename_i a S1 e1
        cases et : tru S1 a with
        | none =>
          rw [et] at e
          cases e
        | some k' =>
          rw [et] at e
          cases e
          exact (pts_one h.2.1).run pins s σ H Q I ⟨W, env, S, a, _, _, wd, re, e1, et, q⟩
  · refine ⟨fun pos => and_cons h.1 (p2 pos), fun pos => or_cons h.1 (p3 pos), fun pos => t_and_cons h.2.1 (p4 pos), fun pos => t_or_cons h.2.1 (p5 pos), ⟨fun pins s σ H Q I ⟨W, env, S, k, S', wd, re, e, q⟩ => ?_⟩⟩
    simp [evTs] at e
theorem and_s {X : Cx} {es : Exs} {xs : List Expr} {pos : Pos} (h : S7 Φ Γ X es xs) : S3 Φ Γ X (.and es) (.BoolOp .And xs pos) := by
  refine ⟨PE_imp (h.2.1 pos) fun σ H Q ⟨W, env, S, a, S', wd, re, e, q⟩ => ⟨W, env, S, a, S', wd, re, by simpa only [ev] using e, q⟩, PT_imp (h.2.2.2.1 pos).pt fun σ H Q ⟨W, env, S, a, S', k, wd, re, e, et, q⟩ => ⟨W, env, S, a, S', k, wd, re, by simpa only [ev] using e, et, q⟩, (fun h => by cases h), fun h => by cases h⟩
theorem or_s {X : Cx} {es : Exs} {xs : List Expr} {pos : Pos} (h : S7 Φ Γ X es xs) : S3 Φ Γ X (.or es) (.BoolOp .Or xs pos) := by
  refine ⟨PE_imp (h.2.2.1 pos) fun σ H Q ⟨W, env, S, a, S', wd, re, e, q⟩ => ⟨W, env, S, a, S', wd, re, by simpa only [ev] using e, q⟩, PT_imp (h.2.2.2.2.1 pos).pt fun σ H Q ⟨W, env, S, a, S', k, wd, re, e, et, q⟩ => ⟨W, env, S, a, S', k, wd, re, by simpa only [ev] using e, et, q⟩, (fun h => by cases h), fun h => by cases h⟩
theorem cons_sh {N : List Str} {sc : Scope} {ow : Str → Bool} {es : Exs} {xs : List Expr} (h : agEs nm N sc ow es xs = true) : (es.isNil = true ∧ xs = []) ∨ ∃ e' es' x' xs', es = .cons e' es' ∧ xs = x' :: xs' := by
  cases es with
  | nil =>
    cases xs with
    | nil => exact .inl ⟨rfl, rfl⟩
    | cons _ _ => simp [agEs] at h
  | cons e es =>
    cases xs with
    | nil => simp [agEs] at h
    | cons _ _ => exact .inr ⟨_, _, _, _, rfl, rfl⟩
theorem vis_of {X : Cx} {x : Str} (h : isVis X.env.scope x = true) : Vis X.env.scope x := isVis_ok h
theorem swo (x : Str) (scope : Scope) : (scope.names.lookup x == some .cell) = true → (fun x => scope.names.lookup x == some NameKind.cell) x = true := id
mutual
theorem e_s : ∀ (e : Ex) (X : Cx) (ow : Str → Bool) (x : Expr), At nm Φ Γ lv X → (∀ x, ow x = true → X.fn x = true) → agE nm X.N X.env.scope ow e x = true → S3 Φ Γ X e x
  | .var i, X, ow, x, at_, how, h => by
    simp only [agE] at h
    split at h
    · simp only [Bool.and_eq_true, decide_eq_true_eq] at h
      exact s3_val ⟨rfl, rfl⟩ (fun _ => rfl) (c_var at_ h.1.1 (isVis_ok h.1.2) h.2)
    · cases h
  | .cst c, X, ow, x, at_, how, h => by
    simp only [agE] at h
    split at h
    · exact s3_val ⟨rfl, rfl⟩ (fun _ => rfl) (c_cst at_ h)
    · cases h
  | .glb i, X, ow, x, at_, how, h => by
    simp only [agE] at h
    split at h
    · simp only [Bool.and_eq_true, decide_eq_true_eq] at h
      exact s3_val ⟨rfl, rfl⟩ (fun _ => rfl) (c_glb at_ h.1.1 h.1.2 h.2)
    · cases h
  | .tup es, X, ow, x, at_, how, h => by
    simp only [agE] at h
    split at h
    · simp only [Bool.and_eq_true, decide_eq_true_eq] at h
      exact s3_val ⟨rfl, rfl⟩ (fun _ => rfl) (c_tup at_ h.1 h.2 ((es_s es X ow at_ how).1 _ h.2).1)
    · cases h
  | .lst es, X, ow, x, at_, how, h => by
    simp only [agE] at h
    split at h
    · simp only [Bool.and_eq_true, decide_eq_true_eq] at h
      have n := c_lstN (pos := ‹Pos›) at_ h.1 h.2 ((es_s es X ow at_ how).1 _ h.2).1
      have v := c_ofN at_ n fun env S a S' => lst_d
      exact ⟨v, t_val v fun _ => rfl, fun _ => n, fun h => by cases h⟩
    · cases h
  | .fresh a, X, ow, x, at_, how, h => by
    simp only [agE, Bool.and_eq_true] at h
    obtain ⟨p1, p2, p3, p4⟩ := e_s a X ow x at_ how h.2
    have v : PE X x (rdE X.K Φ Γ (.fresh a)) := by
      have h1 := h.1
      split at h1
      · exact c_fresh at_ (p3 rfl) fun _ _ _ _ => lst_d
      · exact c_fresh at_ (p3 rfl) fun _ _ _ _ => comp_d
      · exact c_fresh at_ (p3 rfl) fun _ _ _ _ => lrg_d
      · exact c_fresh at_ (p3 rfl) fun _ _ _ _ => bltl_d (.inl rfl)
      · exact c_fresh at_ (p3 rfl) fun _ _ _ _ => bltl_d (.inr rfl)
      · exact c_fresh at_ (p3 rfl) fun _ _ _ _ => lrg2_d
      · exact c_fresh at_ (p3 rfl) fun _ _ _ _ => its_d
      · exact c_freshD at_ (p4 rfl) fun _ _ _ _ => dnew_d
      · exact c_freshD at_ (p4 rfl) fun _ _ _ _ => d1_d
      · exact c_freshD at_ (p4 rfl) fun _ _ _ _ => dcomp_d
      · exact c_freshD at_ (p4 rfl) fun _ _ _ _ => bltd_d
      · cases h1
    refine ⟨v, t_val v ?_, (fun h => by cases h), fun h => by cases h⟩
    have h2 := h.2
    have h1 := h.1
    split at h1 <;> first | (cases h1; done) | skip
    all_goals
      simp only [agE] at h2
      split at h2 <;> first | (cases h2; done) | (intro _; rfl)
  | .bin o a b, X, ow, x, at_, how, h => by
    simp only [agE] at h
    split at h
    · simp only [Bool.and_eq_true, decide_eq_true_eq] at h
      obtain ⟨⟨rfl, h1⟩, h2⟩ := h
      exact s3_val ⟨rfl, rfl⟩ (fun _ => rfl) (c_bin at_ (e_s a X ow _ at_ how h1).1 (e_s b X ow _ at_ how h2).1)
    · cases h
  | .neg a, X, ow, x, at_, how, h => by
    simp only [agE] at h
    split at h
    · exact s3_val ⟨rfl, rfl⟩ (fun _ => rfl) (c_neg at_ (e_s a X ow _ at_ how h).1)
    · cases h
  | .cmp o a b, X, ow, x, at_, how, h => by
    simp only [agE] at h
    split at h
    · simp only [Bool.and_eq_true, decide_eq_true_eq, Bool.not_eq_true'] at h
      obtain ⟨⟨⟨rfl, hm⟩, h1⟩, h2⟩ := h
      exact ⟨c_cmp at_ hm (e_s a X ow _ at_ how h1).1 (e_s b X ow _ at_ how h2).1, c_cmpT at_ hm (e_s a X ow _ at_ how h1).1 (e_s b X ow _ at_ how h2).1, (fun h => by cases h), fun h => by cases h⟩
    · cases h
  | .chn o p a b c, X, ow, x, at_, how, h => by
    simp only [agE] at h
    split at h
    · simp only [Bool.and_eq_true, decide_eq_true_eq, Bool.not_eq_true'] at h
      obtain ⟨⟨⟨⟨⟨rfl, rfl⟩, hm⟩, h1⟩, h2⟩, h3⟩ := h
      exact ⟨c_chn at_ hm (e_s a X ow _ at_ how h1).1 (e_s b X ow _ at_ how h2).1 (e_s c X ow _ at_ how h3).1, c_chnT at_ hm (e_s a X ow _ at_ how h1).1 (e_s b X ow _ at_ how h2).1 (e_s c X ow _ at_ how h3).1, (fun h => by cases h), fun h => by cases h⟩
    · cases h
  | .and es, X, ow, x, at_, how, h => by
    simp only [agE] at h
    split at h
    · exact and_s ((es_s es X ow at_ how).1 _ h)
    · cases h
  | .or es, X, ow, x, at_, how, h => by
    simp only [agE] at h
    split at h
    · exact or_s ((es_s es X ow at_ how).1 _ h)
    · cases h
  | .not a, X, ow, x, at_, how, h => by
    simp only [agE] at h
    split at h
    · have q := e_s a X ow _ at_ how h
      exact ⟨c_not at_ q.1, c_notT at_ q.2.1, (fun h => by cases h), fun h => by cases h⟩
    · cases h
  | .ite t a b, X, ow, x, at_, how, h => by
    simp only [agE] at h
    split at h
    · simp only [Bool.and_eq_true] at h
      have q1 := e_s t X ow _ at_ how h.1.1
      have q2 := e_s a X ow _ at_ how h.1.2
      have q3 := e_s b X ow _ at_ how h.2
      exact ⟨c_ite at_ q1.2.1 q2.1 q3.1, t_ite q1.2.1 q2.2.1 q3.2.1, (fun h => by cases h), fun h => by cases h⟩
    · cases h
  | .ix a i, X, ow, x, at_, how, h => by
    simp only [agE] at h
    split at h
    · simp only [Bool.and_eq_true] at h
      exact s3_val ⟨rfl, rfl⟩ (fun _ => rfl) (c_ix at_ h.1.1 (e_s a X ow _ at_ how h.1.2).1 (e_s i X ow _ at_ how h.2).1)
    · cases h
  | .mth m o a, X, ow, x, at_, how, h => by
    simp only [agE] at h
    split at h
    · simp only [Bool.and_eq_true, decide_eq_true_eq] at h
      obtain ⟨⟨⟨⟨⟨rfl, hb⟩, hs⟩, hl⟩, h1⟩, h2⟩ := h
      exact s3_val ⟨rfl, rfl⟩ (fun _ => rfl) (c_mth at_ hb hs hl (e_s o X ow _ at_ how h1).1 (e_s a X ow _ at_ how h2).1)
    · cases h
  | .slc a lo hi, X, ow, x, at_, how, h => by
    simp only [agE] at h
    split at h
    · simp only [Bool.and_eq_true] at h
      exact s3_val ⟨rfl, rfl⟩ (fun _ => rfl) (c_slc at_ (e_s a X ow _ at_ how h.1.1).1 ((es_s lo X ow at_ how).2 _ h.1.2) ((es_s hi X ow at_ how).2 _ h.2))
    · cases h
  | .call f es, X, ow, x, at_, how, h => by
    simp only [agE] at h
    split at h
    · simp only [Bool.and_eq_true, decide_eq_true_eq] at h
      exact s3_val ⟨rfl, rfl⟩ (fun _ => rfl) (c_call at_ h.1.1.1 h.1.1.2 h.1.2 (allSt_of h.2) h.2 ((es_s es X ow at_ how).1 _ h.2).1)
    · cases h
  | .blt b es, X, ow, x, at_, how, h => by
    simp only [agE] at h
    split at h
    · simp only [Bool.and_eq_true, decide_eq_true_eq] at h
      obtain ⟨⟨rfl, h2⟩, h3⟩ := h
      have hs := allSt_of h3
      simp only [allSt, Bool.and_eq_true] at hs
      have v := c_blt (p := ‹Pos›) (pos := ‹Pos›) at_ h2 hs.1 hs.2 ((es_s es X ow at_ how).1 _ h3).1
      refine ⟨?_, ?_, fun hn => ?_, fun hn => ?_⟩
      · exact c_blt at_ h2 hs.1 hs.2 ((es_s es X ow at_ how).1 _ h3).1
      · exact t_val (c_blt at_ h2 hs.1 hs.2 ((es_s es X ow at_ how).1 _ h3).1) fun _ => rfl
      · refine c_bltN at_ ?_ h2 hs.1 hs.2 ((es_s es X ow at_ how).1 _ h3).1
        simp only [isNew, Bool.or_eq_true, beq_iff_eq] at hn
        exact hn
      · simp only [isNewD, beq_iff_eq] at hn
        subst hn
        exact c_bltND at_ h2 hs.1 hs.2 ((es_s es X ow at_ how).1 _ h3).1
    · cases h
  | .isi a ts, X, ow, x, at_, how, h => by
    simp only [agE] at h
    split at h
    · simp only [Bool.and_eq_true, decide_eq_true_eq] at h
      obtain ⟨⟨⟨⟨rfl, h2⟩, s1⟩, h3⟩, h4⟩ := h
      have q := (e_s a X ow _ at_ how h3).1
      split at h4
      · simp only [Bool.and_eq_true, decide_eq_true_eq] at h4
        exact s3_val ⟨rfl, rfl⟩ (fun _ => rfl) (c_isiT at_ h2 s1 q h4.2 h4.1)
      · split at h4
        · exact s3_val ⟨rfl, rfl⟩ (fun _ => rfl) (c_isi1 at_ h2 s1 q h4)
        · cases h4
    · cases h
  | .comp t it ifs a, X, ow, x, at_, how, h => by
    simp only [agE] at h
    split at h
    · simp only [Bool.and_eq_true, decide_eq_true_eq] at h
      obtain ⟨⟨⟨⟨⟨⟨rfl, hb⟩, h1⟩, h2⟩, h3⟩, h4⟩, h5⟩ := h
      have q1 := i_s it X ow _ _ at_ how h1
      have n := (c_compN (pos := ‹Pos›) at_ hb q1.1 (fun s H C cl fp => t_s t _ _ _ _ (at_.blk ..) (fun _ z => z) h2) (fun s H C cl fp => ((es_s ifs _ _ (at_.blk ..) (fun _ z => z)).1 _ h4).2.2.2.2.2) (fun s H C cl fp => (e_s a _ _ _ (at_.blk ..) (fun _ z => z) h5).1) q1.2).2
      have v := c_ofN at_ n fun env S a S' => comp_d
      exact ⟨v, t_val v fun _ => rfl, fun _ => n, fun h => by cases h⟩
    · cases h
  | .lrg a, X, ow, x, at_, how, h => by
    simp only [agE] at h
    split at h
    · simp only [Bool.and_eq_true, decide_eq_true_eq] at h
      obtain ⟨⟨⟨⟨⟨rfl, rfl⟩, h1⟩, h2⟩, h3⟩, h4⟩ := h
      have v := c_ofN at_ (c_lrgN (p1 := ‹Pos›) (p2 := ‹Pos›) (p3 := ‹Pos›) (pos := ‹Pos›) at_ h1 h2 h3 (e_s a X ow _ at_ how h4).1) fun env S a S' => lrg_d
      exact ⟨c_ofN at_ (c_lrgN at_ h1 h2 h3 (e_s a X ow _ at_ how h4).1) fun env S a S' => lrg_d, t_val (c_ofN at_ (c_lrgN at_ h1 h2 h3 (e_s a X ow _ at_ how h4).1) fun env S a S' => lrg_d) fun _ => rfl, (fun _ => c_lrgN at_ h1 h2 h3 (e_s a X ow _ at_ how h4).1), fun h => by cases h⟩
    · cases h
  | .lrg2 a b, X, ow, x, at_, how, h => by
    simp only [agE] at h
    split at h
    · simp only [Bool.and_eq_true, decide_eq_true_eq] at h
      obtain ⟨⟨⟨⟨⟨⟨⟨rfl, rfl⟩, h1⟩, h2⟩, h3⟩, h3b⟩, h4⟩, h5⟩ := h
      have n := c_lrg2N (p1 := ‹Pos›) (p2 := ‹Pos›) (p3 := ‹Pos›) (pos := ‹Pos›) at_ h1 h2 h3 h3b (e_s a X ow _ at_ how h4).1 (e_s b X ow _ at_ how h5).1
      exact ⟨c_ofN at_ (c_lrg2N at_ h1 h2 h3 h3b (e_s a X ow _ at_ how h4).1 (e_s b X ow _ at_ how h5).1) fun env S a S' => lrg2_d, t_val (c_ofN at_ (c_lrg2N at_ h1 h2 h3 h3b (e_s a X ow _ at_ how h4).1 (e_s b X ow _ at_ how h5).1) fun env S a S' => lrg2_d) fun _ => rfl, (fun _ => c_lrg2N at_ h1 h2 h3 h3b (e_s a X ow _ at_ how h4).1 (e_s b X ow _ at_ how h5).1), fun h => by cases h⟩
    · cases h
  | .its srt o, X, ow, x, at_, how, h => by
    simp only [agE] at h
    split at h
    · simp only [Bool.and_eq_true, decide_eq_true_eq] at h
      obtain ⟨⟨⟨⟨⟨rfl, rfl⟩, h1⟩, h2⟩, h3⟩, h4⟩ := h
      have q := (e_s o X ow _ at_ how h4).1
      cases srt with
      | false => exact ⟨c_ofN at_ (c_itsN (srt := false) at_ h1 h2 h3 q) fun env S a S' => its_d, t_val (c_ofN at_ (c_itsN (srt := false) at_ h1 h2 h3 q) fun env S a S' => its_d) fun _ => rfl, (fun _ => c_itsN (srt := false) at_ h1 h2 h3 q), fun h => by cases h⟩
      | true => exact ⟨c_ofN at_ (c_itsN (srt := true) at_ h1 h2 h3 q) fun env S a S' => its_d, t_val (c_ofN at_ (c_itsN (srt := true) at_ h1 h2 h3 q) fun env S a S' => its_d) fun _ => rfl, (fun _ => c_itsN (srt := true) at_ h1 h2 h3 q), fun h => by cases h⟩
    · cases h
  | .dnew, X, ow, x, at_, how, h => by
    simp only [agE] at h
    split at h
    · refine ⟨c_ofND at_ (c_dnewN at_) fun env S a S' => dnew_d, t_val (c_ofND at_ (c_dnewN at_) fun env S a S' => dnew_d) fun _ => rfl, (fun h => by cases h), fun _ => c_dnewN at_⟩
    · cases h
  | .d1 k e, X, ow, x, at_, how, h => by
    simp only [agE] at h
    split at h
    · simp only [Bool.and_eq_true] at h
      have q1 := (e_s k X ow _ at_ how h.1).1
      have q2 := (e_s e X ow _ at_ how h.2).1
      exact ⟨c_ofND at_ (c_d1N at_ q1 q2) fun env S a S' => d1_d, t_val (c_ofND at_ (c_d1N at_ q1 q2) fun env S a S' => d1_d) fun _ => rfl, (fun h => by cases h), fun _ => c_d1N at_ q1 q2⟩
    · cases h
  | .dget o k, X, ow, x, at_, how, h => by
    simp only [agE] at h
    split at h
    · simp only [Bool.and_eq_true, decide_eq_true_eq] at h
      obtain ⟨⟨⟨⟨⟨rfl, hb⟩, hs⟩, hl⟩, h1⟩, h2⟩ := h
      exact s3_val ⟨rfl, rfl⟩ (fun _ => rfl) (c_dget at_ hb hs hl (e_s o X ow _ at_ how h1).1 (e_s k X ow _ at_ how h2).1)
    · cases h
  | .dgetd o k f, X, ow, x, at_, how, h => by
    simp only [agE] at h
    split at h
    · simp only [Bool.and_eq_true, decide_eq_true_eq] at h
      obtain ⟨⟨⟨⟨⟨⟨⟨rfl, hb⟩, hs⟩, hs2⟩, hl⟩, h1⟩, h2⟩, h3⟩ := h
      exact s3_val ⟨rfl, rfl⟩ (fun _ => rfl) (c_dgetd at_ hb hs hs2 hl (e_s o X ow _ at_ how h1).1 (e_s k X ow _ at_ how h2).1 (e_s f X ow _ at_ how h3).1)
    · cases h
  | .dpop o k, X, ow, x, at_, how, h => by
    simp only [agE] at h
    split at h
    · simp only [Bool.and_eq_true, decide_eq_true_eq] at h
      obtain ⟨⟨⟨⟨⟨rfl, hb⟩, hs⟩, hl⟩, h1⟩, h2⟩ := h
      exact s3_val ⟨rfl, rfl⟩ (fun _ => rfl) (c_dpop at_ hb hs hl (e_s o X ow _ at_ how h1).1 (e_s k X ow _ at_ how h2).1)
    · cases h
  | .dcomp t it ifs k e, X, ow, x, at_, how, h => by
    simp only [agE] at h
    split at h
    · simp only [Bool.and_eq_true, decide_eq_true_eq] at h
      obtain ⟨⟨⟨⟨⟨⟨⟨rfl, hb⟩, h1⟩, h2⟩, h3⟩, h4⟩, h5⟩, h6⟩ := h
      have q1 := i_s it X ow _ _ at_ how h1
      have n := (c_dcompN (pos := ‹Pos›) at_ hb q1.1 (fun s H C cl fp => t_s t _ _ _ _ (at_.blk ..) (fun _ z => z) h2) (fun s H C cl fp => ((es_s ifs _ _ (at_.blk ..) (fun _ z => z)).1 _ h4).2.2.2.2.2) (fun s H C cl fp => (e_s k _ _ _ (at_.blk ..) (fun _ z => z) h5).1) (fun s H C cl fp => (e_s e _ _ _ (at_.blk ..) (fun _ z => z) h6).1) q1.2).2
      have v := c_ofND at_ n fun env S a S' => dcomp_d
      exact ⟨v, t_val v fun _ => rfl, (fun h => by cases h), fun _ => n⟩
    · cases h
theorem es_s : ∀ (es : Exs) (X : Cx) (ow : Str → Bool), At nm Φ Γ lv X → (∀ x, ow x = true → X.fn x = true) → (∀ xs, agEs nm X.N X.env.scope ow es xs = true → S7 Φ Γ X es xs) ∧ (∀ x, agO nm X.N X.env.scope ow es x = true → PO X x (rdO X.K Φ Γ es))
  | .nil, X, ow, at_, how => by
    refine ⟨fun xs h => ?_, fun x h => ?_⟩
    · simp only [agEs] at h
      split at h
      · exact s7_nil
      · cases h
    · simp only [agO] at h
      split at h
      · exact o_nil
      · cases h
  | .cons e es, X, ow, at_, how => by
    refine ⟨fun xs h => ?_, fun x h => ?_⟩
    · simp only [agEs] at h
      split at h
      · simp only [Bool.and_eq_true] at h
        exact s7_cons h.1.1 (cons_sh h.2) (e_s e X ow _ at_ how h.1.2) ((es_s es X ow at_ how).1 _ h.2)
      · cases h
    · simp only [agO] at h
      split at h
      · split at h
        · exact o_one (e_s e X ow _ at_ how h).1
        · cases h
      · cases h
theorem t_s : ∀ (t : Tg) (X : Cx) (ow : Str → Bool) (big : Bool) (x : Expr), At nm Φ Γ lv X → (∀ x, ow x = true → X.fn x = true) → agT nm X.N X.env.scope ow big t x = true → PG X x (rdG X.K Φ Γ t)
  | .nm i, X, ow, big, x, at_, how, h => by
    simp only [agT] at h
    split at h
    · simp only [Bool.and_eq_true, decide_eq_true_eq] at h
      obtain ⟨l1, l2⟩ := isLoc_ok how h.2
      exact g_nm at_ h.1 l1 l2
    · cases h
  | .tp ts, X, ow, big, x, at_, how, h => by
    simp only [agT] at h
    split at h
    · exact g_tp at_ h (ts_s ts X ow big _ at_ how h)
    · cases h
  | .sub o i, X, ow, big, x, at_, how, h => by
    simp only [agT] at h
    split at h
    · simp only [Bool.and_eq_true] at h
      exact g_sub at_ h.1.1.2 (e_s o X ow _ at_ how h.1.2).1 (e_s i X ow _ at_ how h.2).1
    · cases h
theorem ts_s : ∀ (ts : Tgs) (X : Cx) (ow : Str → Bool) (big : Bool) (xs : List Expr), At nm Φ Γ lv X → (∀ x, ow x = true → X.fn x = true) → agTs nm X.N X.env.scope ow big ts xs = true → PGs X xs (rdGs X.K Φ Γ ts)
  | .nil, X, ow, big, xs, at_, how, h => by
    simp only [agTs] at h
    split at h
    · exact gs_nil
    · cases h
  | .cons t ts, X, ow, big, xs, at_, how, h => by
    simp only [agTs] at h
    split at h
    · simp only [Bool.and_eq_true] at h
      exact gs_cons h.1.1 (t_s t X ow big _ at_ how h.1.2) (ts_s ts X ow big _ at_ how h.2)
    · cases h
theorem i_s : ∀ (it : Itx) (X : Cx) (ow : Str → Bool) (tg x : Expr), At nm Φ Γ lv X → (∀ x, ow x = true → X.fn x = true) → agI nm X.N X.env.scope ow it tg x = true → PI X tg x (rdI X.K Φ Γ (NF X) it) ∧ ∀ v, foldedSetIterable x X.env v = pure v
  | .seq e, X, ow, tg, x, at_, how, h => by
    simp only [agI, Bool.and_eq_true] at h
    exact ⟨i_seq at_ (e_s e X ow _ at_ how h.2).1, folded_of h.1 _⟩
  | .rng a, X, ow, tg, x, at_, how, h => by
    simp only [agI] at h
    split at h
    · simp only [Bool.and_eq_true, decide_eq_true_eq] at h
      obtain ⟨⟨⟨rfl, h2⟩, h3⟩, h4⟩ := h
      exact ⟨i_rng at_ h2 h3 (e_s a X ow _ at_ how h4).1, fun _ => rfl⟩
    · cases h
  | .rng2 a b, X, ow, tg, x, at_, how, h => by
    simp only [agI] at h
    split at h
    · simp only [Bool.and_eq_true, decide_eq_true_eq] at h
      obtain ⟨⟨⟨⟨⟨rfl, h2⟩, h3⟩, h4⟩, h5⟩, h6⟩ := h
      exact ⟨i_rng2 at_ h2 h3 h4 (e_s a X ow _ at_ how h5).1 (e_s b X ow _ at_ how h6).1, fun _ => rfl⟩
    · cases h
  | .enm a, X, ow, tg, x, at_, how, h => by
    simp only [agI, Bool.and_eq_true] at h
    obtain ⟨ht, h⟩ := h
    split at ht
    · split at h
      · simp only [Bool.and_eq_true, decide_eq_true_eq] at h
        obtain ⟨⟨⟨rfl, h2⟩, h3⟩, h4⟩ := h
        exact ⟨i_enm at_ h2 h3 (e_s a X ow _ at_ how h4).1, fun _ => rfl⟩
      · cases h
    · cases ht
  | .zip a b, X, ow, tg, x, at_, how, h => by
    simp only [agI, Bool.and_eq_true] at h
    obtain ⟨ht, h⟩ := h
    split at ht
    · split at h
      · simp only [Bool.and_eq_true, decide_eq_true_eq] at h
        obtain ⟨⟨⟨⟨⟨rfl, h2⟩, h3⟩, h4⟩, h5⟩, h6⟩ := h
        exact ⟨i_zip at_ h2 h3 h4 (e_s a X ow _ at_ how h5).1 (e_s b X ow _ at_ how h6).1, fun _ => rfl⟩
      · cases h
    · cases ht
  | .itm a, X, ow, tg, x, at_, how, h => by
    simp only [agI, Bool.and_eq_true] at h
    obtain ⟨ht, h⟩ := h
    split at ht
    · split at h
      · simp only [Bool.and_eq_true, decide_eq_true_eq] at h
        obtain ⟨⟨⟨rfl, h2⟩, h3⟩, h4⟩ := h
        exact ⟨i_itm at_ h2 h3 (e_s a X ow _ at_ how h4).1, fun _ => rfl⟩
      · cases h
    · cases ht
end
end
end PV

/-! PV16: statements. -/
namespace PV
open PySem PySem.Spec PyProof.Rows L2
/-- behind a statement -/
def KtF (K : PySem.W.Frag) (W : Wo) (D : Ends) : Fl × En × Sto → Prop
  | (.nx, env, S) => ∀ W' σ' H', Le W W' → Wd K W' H' S → Re K W' σ' env → D.nx σ' H'
  | (.bk, env, S) => ∀ W' σ' H', Le W W' → Wd K W' H' S → Re K W' σ' env → D.bk σ' H'
  | (.ct, env, S) => ∀ W' σ' H', Le W W' → Wd K W' H' S → Re K W' σ' env → D.ct σ' H'
  | (.rt a, _, S) => ∀ W' v H', Le W W' → Wd K W' H' S → Ra K W' v a → D.rt v H'
theorem KtF.le {K : PySem.W.Frag} {W W' : Wo} {D : Ends} {r : Fl × En × Sto} (h : KtF K W D r) (l : Le W W') : KtF K W' D r := by
  obtain ⟨f, env, S⟩ := r
  cases f with
  | nx => exact fun W2 σ' H' l' => h W2 σ' H' (l.trans l')
  | bk => exact fun W2 σ' H' l' => h W2 σ' H' (l.trans l')
  | ct => exact fun W2 σ' H' l' => h W2 σ' H' (l.trans l')
  | rt a => exact fun W2 v H' l' => h W2 v H' (l.trans l')
section
variable (K : PySem.W.Frag) (Φ : List Fs) (Γ : List PyData)
def rdS (s : Sx) : TS := fun D σ H => ∃ W env S r, Wd K W H S ∧ Re K W σ env ∧ ex Φ Γ s env S = some r ∧ KtF K W D r
def rdSs (ss : Ss) : TS := fun D σ H => ∃ W env S r, Wd K W H S ∧ Re K W σ env ∧ exs Φ Γ ss env S = some r ∧ KtF K W D r
end
section
variable {nm : Nm} {Φ : List Fs} {Γ : List PyData} {lv : Nat} {X : Cx}
theorem q_nil : PSs X [] (rdSs X.K Φ Γ .nil) := PSs_imp pss_nil fun D σ H ⟨W, env, S, r, wd, re, e, q⟩ => by
  simp only [exs] at e
  cases e
  exact q W σ H (.refl W) wd re
theorem q_cons {s : Sx} {ss : Ss} {x : Stmt} {xs : List Stmt} (h1 : PS X x (rdS X.K Φ Γ s)) (h2 : PSs X xs (rdSs X.K Φ Γ ss)) : PSs X (x :: xs) (rdSs X.K Φ Γ (.cons s ss)) := PSs_imp (pss_cons h1 h2) fun D σ H ⟨W, env, S, r, wd, re, e, q⟩ => by
  simp only [exs] at e
  split at e
  · rename_i env1 S1 e1
    exact ⟨W, env, S, (.nx, env1, S1), wd, re, e1, fun W1 σ1 H1 le1 wd1 re1 => ⟨W1, env1, S1, r, wd1, re1, e, q.le le1⟩⟩
  · rename_i a env1 S1 e1
    cases e
    exact ⟨W, env, S, (.rt a, env1, S1), wd, re, e1, q⟩
  · rename_i env1 S1 e1
    cases e
    exact ⟨W, env, S, (.bk, env1, S1), wd, re, e1, q⟩
  · rename_i env1 S1 e1
    cases e
    exact ⟨W, env, S, (.ct, env1, S1), wd, re, e1, q⟩
  · cases e
theorem q_ret {e : Ex} {x : Expr} {pos : Pos} (h : PE X x (rdE X.K Φ Γ e)) : PS X (.Return (some x) pos) (rdS X.K Φ Γ (.ret e)) := PS_imp (ps_ret h) fun D σ H ⟨W, env, S, r, wd, re, e, q⟩ => by
  simp only [ex] at e
  split at e
  · cases e
  · rename_i a S1 e1
    split at e
    · rename_i x S2 e2
      cases e
      refine ⟨W, env, S, a, S1, wd, re, e1, fun W1 v1 H1 le1 wd1 r1 => ?_⟩
      obtain ⟨W2, le2, eρ, wd2, r2⟩ := wd1.frz r1 e2
      exact q W2 v1 H1 (le1.trans le2) wd2 r2
    · cases e
      exact ⟨W, env, S, a, S1, wd, re, e1, fun W1 v1 H1 le1 wd1 r1 => q W1 v1 H1 le1 wd1 r1⟩
theorem q_retO {e : Ex} {x : Expr} {pos : Pos} (h : PE X x (rdE X.K Φ Γ e)) : PS X (.Return (some x) pos) (rdS X.K Φ Γ (.retO e)) := PS_imp (ps_ret h) fun D σ H ⟨W, env, S, r, wd, re, e, q⟩ => by
  simp only [ex] at e
  split at e
  · cases e
  · rename_i a S1 e1
    cases e
    exact ⟨W, env, S, a, S1, wd, re, e1, fun W1 v1 H1 le1 wd1 r1 => q W1 v1 H1 le1 wd1 r1⟩
theorem q_ret0 {pos : Pos} : PS X (.Return none pos) (rdS X.K Φ Γ .ret0) := PS_imp ps_retN fun D σ H ⟨W, env, S, r, wd, re, e, q⟩ => by
  simp only [ex] at e
  cases e
  exact q W .non H (.refl W) wd .non
theorem q_pas {pos : Pos} : PS X (.Pass pos) (rdS X.K Φ Γ .pas) := PS_imp ps_pass fun D σ H ⟨W, env, S, r, wd, re, e, q⟩ => by
  simp only [ex] at e
  cases e
  exact q W σ H (.refl W) wd re
theorem q_brk {pos : Pos} : PS X (.Break pos) (rdS X.K Φ Γ .brk) := PS_imp ps_break fun D σ H ⟨W, env, S, r, wd, re, e, q⟩ => by
  simp only [ex] at e
  cases e
  exact q W σ H (.refl W) wd re
theorem q_cnt {pos : Pos} : PS X (.Continue pos) (rdS X.K Φ Γ .cnt) := PS_imp ps_continue fun D σ H ⟨W, env, S, r, wd, re, e, q⟩ => by
  simp only [ex] at e
  cases e
  exact q W σ H (.refl W) wd re
theorem q_exp {e : Ex} {x : Expr} {pos : Pos} (hp : plainVal x = true) (h : PE X x (rdE X.K Φ Γ e)) : PS X (.Expr x pos) (rdS X.K Φ Γ (.exp e)) := PS_imp (ps_expr h (by cases x <;> first | rfl | cases hp)) fun D σ H ⟨W, env, S, r, wd, re, e, q⟩ => by
  simp only [ex] at e
  split at e
  · cases e
  · rename_i a S1 e1
    cases e
    exact ⟨W, env, S, a, S1, wd, re, e1, fun W1 v1 H1 le1 wd1 r1 => q W1 σ H1 le1 wd1 (re.le le1)⟩
theorem q_if {t : Ex} {a b : Ss} {c : Expr} {x y : List Stmt} {pos : Pos} (hc : PT X c (rdT X.K Φ Γ t)) (ha : PSs X x (rdSs X.K Φ Γ a)) (hb : PSs X y (rdSs X.K Φ Γ b)) : PS X (.If c x y pos) (rdS X.K Φ Γ (.ifs t a b)) := PS_imp (ps_if hc ha hb) fun D σ H ⟨W, env, S, r, wd, re, e, q⟩ => by
  simp only [ex, evT] at e
  cases e1 : ev Φ Γ t env S with
  | none =>
    rw [e1] at e
    cases e
  | some z =>
    obtain ⟨a', S1⟩ := z
    rw [e1] at e
    cases e2 : tru S1 a' with
    | none =>
      simp only [e2, Option.map_none] at e
      cases e
    | some k =>
      simp only [e2, Option.map_some] at e
      refine ⟨W, env, S, a', S1, k, wd, re, e1, e2, fun W1 H1 le1 wd1 => ?_⟩
      cases k with
      | true => exact iteT ⟨W1, env, S1, r, wd1, re.le le1, e, q.le le1⟩
      | false => exact iteF ⟨W1, env, S1, r, wd1, re.le le1, e, q.le le1⟩
/-! stores -/
theorem asg_key {t : Tg} {e : Ex} : ∀ (D : Ends) (σ : L2.St) (H : Hp), rdS X.K Φ Γ (.asg t e) D σ H → tAsg (rdE X.K Φ Γ e) (rdG X.K Φ Γ t) D σ H := fun D σ H ⟨W, env, S, r, wd, re, e, q⟩ => by
  simp only [ex] at e
  split at e
  · cases e
  · rename_i a S1 e1
    cases e2 : bnd Φ Γ t a env S1 with
    | none =>
      rw [e2] at e
      cases e
    | some z =>
      rw [e2] at e
      cases e
      obtain ⟨env', S'⟩ := z
      exact ⟨W, env, S, a, S1, wd, re, e1, fun W1 v1 H1 le1 wd1 r1 => ⟨W1, a, env, S1, env', S', wd1, re.le le1, r1, e2, fun W2 σ2 H2 le2 wd2 re2 _ => q W2 σ2 H2 (le1.trans le2) wd2 re2⟩⟩
theorem q_asg {t : Tg} {e : Ex} {tg v : Expr} {pos : Pos} (hs : swapsWithSole [tg] v pos.line X.env = pure false) (hw : swappedStores [tg] v X.env = pure none) (hn : notSt tg = true) (he : PE X v (rdE X.K Φ Γ e)) (hg : PG X tg (rdG X.K Φ Γ t)) : PS X (.Assign [tg] v pos) (rdS X.K Φ Γ (.asg t e)) :=
  PS_imp (ps_asg he hg hs hw (by cases tg <;> first | rfl | cases hn)) asg_key
theorem q_app {o e : Ex} {x y : Expr} {p1 p2 pos : Pos} (hb : notCall x = true) (hs : notSt y = true) (hl : (p1.endLine == p2.line) = true) (ho : PE X x (rdE X.K Φ Γ o)) (he : PE X y (rdE X.K Φ Γ e)) : PS X (.Expr (.Call (.Attribute x "append" p1) [y] [] p2) pos) (rdS X.K Φ Γ (.app o e)) := by
  have hm := pe_bm (o := x) (e := y) (es := []) (apos := p1) (cpos := p2) PySem.F.plainAttrs_list PySem.F.slot_list_append PySem.F.type_list_append mt_append ho (a_cons hs he a_nil) (by cases x <;> first | rfl | cases hb) (by rw [star_of hs]; rfl) hl (star_of hs _ _) rfl
  refine PS_imp (ps_expr hm) fun D σ H ⟨W, env, S, r, wd, re, e, q⟩ => ?_
  simp only [ex] at e
  split at e
  · cases e
  · rename_i a S1 e1
    split at e
    · rename_i l el
      split at e
      · cases e
      rename_i b S2 e2
      cases e3 : appF a b S2 with
      | none =>
        rw [e3] at e
        cases e
      | some S3 =>
        rw [e3] at e
        cases e
        unfold appF at e3
        split at e3
        · rename_i k
          split at e3
          · rename_i z S4 ez
            split at e3
            · rename_i xs ek
              split at e3
              · rename_i hlen
                cases e3
                refine ⟨W, env, S, .obj k, S1, wd, re, e1, fun W1 v1 H1 le1 wd1 r1 => ?_⟩
                obtain ⟨p, g1, rfl⟩ := r1
                refine ⟨?_, W1, env, S1, [b], S2, wd1, re.le le1, by simp only [evs, e2], fun W2 vs H2 le2 wd2 ra => ?_⟩
                · simp only [deref] at el
                  split at el
                  · rename_i es fz e5
                    obtain ⟨vs, h1, h2, h3⟩ := wd1.ob k p _ g1 e5
                    exact .inl ⟨rfl, _, .inl (.inl h1)⟩
                  · cases el
                  · cases el
                · cases ra with
                  | cons rb t =>
                    cases t
                    obtain ⟨W3, le3, eρ, wd3, rz⟩ := wd2.frz rb ez
                    have g2 : W3.ρ[k]? = some p := by
                      rw [eρ]
                      exact le2.get g1
                    obtain ⟨vs, h1, h2, h3⟩ := wd3.ob k p _ g2 ek
                    have nF : W3.F p = none := by simpa using h3
                    refine ⟨p, vs, _, rfl, rfl, h1, ?_, ?_⟩
                    · rw [h2.length]
                      rw [sizeLine_eq]
                      exact hlen
                    · exact q W3 σ _ ((le1.trans le2).trans le3) (wd3.write g2 nF (wd3.notL h1 rfl) ⟨_, upd_same, h2.append (.cons rz .nil), by simpa using nF⟩) (((re.le le1).le le2).le le3)
              · cases e3
            · cases e3
          · cases e3
        · cases e3
    · cases e
/-! loops -/
theorem q_for {t : Tg} {it : Itx} {b : Ss} {wl : List Nat} {tg iter : Expr} {x : List Stmt} {pos : Pos} (hp : PassesOwn (model X.prog X.w) X.A X.env X.xe) (hc : X.calm = true) (hi : PI X tg iter (rdI X.K Φ Γ (NF X) it)) (hg : PG X tg (rdG X.K Φ Γ t)) (hb : PSs X x (rdSs X.K Φ Γ b)) (hs : ∀ v, foldedSetIterable iter X.env v = pure v) :
    PS X (.For tg iter x [] pos) (rdS X.K Φ Γ (.for_ t it b wl)) := PS_imp (ps_for hp hc hi hg hb hs) fun D σ H ⟨W, env, S, r, wd, re, e, q⟩ => by
  simp only [ex] at e
  split at e
  · cases e
  · rename_i xs w S1 e1
    refine ⟨W, env, S, xs, w, S1, wd, re, e1, fun W1 J H1 le1 wd1 wk _ => ?_⟩
    generalize hf : (fun x env S => match bnd Φ Γ t (itA it x) env S with
      | none => none
      | some (env1, S1) => (exs Φ Γ b env1 S1).map fun (r : Fl × En × Sto) => (r.1, wipeE r.2.1 wl, r.2.2)) = f at e
    refine ⟨fun i m σ H => m = xs.length - i ∧ i ≤ xs.length ∧ ∃ W2 env2 S2, Le W1 W2 ∧ Wd X.K W2 H S2 ∧ Re X.K W2 σ env2 ∧ ckB w S1 S2 = true ∧ forL (watF w S1 f) (xs.drop i) env2 S2 = some r, ⟨xs.length, by simp, Nat.zero_le _, W1, env, S1, .refl _, wd1, re.le le1, ckB_self _ _, e⟩, ?_⟩
    rintro i m σ2 H2 ⟨rfl, hi, W2, env2, S2, le2, wd2, re2, ck2, e2⟩
    by_cases hlt : i < xs.length
    · refine .inr ⟨wk.go W2 H2 S2 i le2.x wd2 ck2 hlt, fun σ' H' => ∃ W2 env2 S2, Le W1 W2 ∧ Wd X.K W2 H' S2 ∧ Re X.K W2 σ' env2 ∧ ckB w S1 S2 = true ∧ forL (watF w S1 f) (xs.drop (i + 1)) env2 S2 = some r, fun σ' H' h' => ⟨xs.length - (i + 1), by omega, rfl, hlt, h'⟩, fun y H' hy => ?_⟩
      obtain ⟨W3, d, le3, wd3, ed, rd⟩ := wk.yld W2 H2 H' S2 i y le2.x wd2 ck2 hlt hy
      rw [List.drop_eq_getElem_cons hlt] at e2
      have ed' : xs[i] = d := by
        rw [List.getElem?_eq_getElem hlt] at ed
        exact Option.some.inj ed
      rw [ed'] at e2
      have l13 := le2.trans le3
      have ef : f d env2 S2 = match bnd Φ Γ t (itA it d) env2 S2 with
          | none => none
          | some (env1, S1) => (exs Φ Γ b env1 S1).map fun r => (r.1, wipeE r.2.1 wl, r.2.2) := by rw [← hf]
      cases eb : bnd Φ Γ t (itA it d) env2 S2 with
      | none =>
        simp only [eb] at ef
        simp only [forL, watF, ef] at e2
        cases e2
      | some z =>
        obtain ⟨env3, S3⟩ := z
        simp only [eb] at ef
        refine ⟨W3, _, env2, S2, env3, S3, wd3, re2.le le3, rd, eb, fun W4 σ4 H4 le4 wd4 re4 _ => ?_⟩
        cases ex' : exs Φ Γ b env3 S3 with
        | none =>
          rw [ex'] at ef
          simp only [forL, watF, ef, Option.map_none] at e2
          cases e2
        | some r5 =>
          rw [ex'] at ef
          simp only [Option.map_some] at ef
          refine ⟨W4, env3, S3, r5, wd4, re4, ex', ?_⟩
          have l14 := l13.trans le4
          obtain ⟨fl, env5, S5⟩ := r5
          cases fl with
          | nx =>
            simp only [forL, watF, ef] at e2
            by_cases hc5 : ckB w S1 S5 = true
            · rw [if_pos hc5] at e2
              exact fun W5 σ5 H5 le5 wd5 re5 => ⟨W5, _, S5, l14.trans le5, wd5, re5.forgetAll wl, hc5, e2⟩
            · rw [if_neg hc5] at e2
              cases e2
          | ct =>
            simp only [forL, watF, ef] at e2
            by_cases hc5 : ckB w S1 S5 = true
            · rw [if_pos hc5] at e2
              exact fun W5 σ5 H5 le5 wd5 re5 => ⟨W5, _, S5, l14.trans le5, wd5, re5.forgetAll wl, hc5, e2⟩
            · rw [if_neg hc5] at e2
              cases e2
          | bk =>
            simp only [forL, watF, ef] at e2
            cases e2
            exact fun W5 σ5 H5 le5 wd5 re5 => q W5 σ5 H5 (le1.trans (l14.trans le5)) wd5 (re5.forgetAll wl)
          | rt a =>
            simp only [forL, watF, ef] at e2
            cases e2
            exact fun W5 v H5 le5 wd5 r5 => q W5 v H5 (le1.trans (l14.trans le5)) wd5 r5
    · have ei : i = xs.length := by omega
      subst ei
      rw [List.drop_length] at e2
      cases e2
      exact .inl ⟨wk.stop W2 H2 S2 le2.x wd2 ck2, q W2 σ2 H2 (le1.trans le2) wd2 re2⟩
theorem q_whl {n : Nat} {t : Ex} {b : Ss} {wl : List Nat} {c : Expr} {x : List Stmt} {pos : Pos} (hp : PassesOwn (model X.prog X.w) X.A X.env X.xe) (hc : PT X c (rdT X.K Φ Γ t)) (hb : PSs X x (rdSs X.K Φ Γ b)) :
    PS X (.While c x [] pos) (rdS X.K Φ Γ (.whl n t b wl)) := PS_imp (ps_while hp hc hb) fun D σ H ⟨W, env, S, r, wd, re, e, q⟩ => by
  simp only [ex] at e
  generalize hf : (fun env S => (exs Φ Γ b env S).map fun (r : Fl × En × Sto) => (r.1, wipeE r.2.1 wl, r.2.2)) = f at e
  refine ⟨fun m σ H => ∃ W2 env2 S2, Le W W2 ∧ Wd X.K W2 H S2 ∧ Re X.K W2 σ env2 ∧ whlL (evT Φ Γ t) f m env2 S2 = some r, ⟨n, W, env, S, .refl _, wd, re, e⟩, ?_⟩
  rintro m σ2 H2 ⟨W2, env2, S2, le2, wd2, re2, e2⟩
  cases m with
  | zero => cases e2
  | succ m =>
    unfold whlL at e2
    have et : evT Φ Γ t env2 S2 = match ev Φ Γ t env2 S2 with
        | none => none
        | some (a, S1) => (tru S1 a).map fun c => (c, S1) := rfl
    cases e3 : ev Φ Γ t env2 S2 with
    | none =>
      simp only [e3] at et
      rw [et] at e2
      cases e2
    | some z =>
      obtain ⟨a, S3⟩ := z
      simp only [e3] at et
      cases e4 : tru S3 a with
      | none =>
        rw [e4] at et
        rw [et] at e2
        cases e2
      | some k =>
        rw [e4] at et
        rw [et] at e2
        simp only [Option.map_some] at e2
        refine ⟨W2, env2, S2, a, S3, k, wd2, re2, e3, e4, fun W3 H3 le3 wd3 => ?_⟩
        have l3 := le2.trans le3
        cases k with
        | false =>
          simp only at e2
          cases e2
          exact iteF (q W3 σ2 H3 l3 wd3 (re2.le le3))
        | true =>
          refine iteT ⟨fun σ' H' => ∃ W2 env2 S2, Le W W2 ∧ Wd X.K W2 H' S2 ∧ Re X.K W2 σ' env2 ∧ whlL (evT Φ Γ t) f m env2 S2 = some r, fun σ' H' h => ⟨m, Nat.lt_succ_self m, h⟩, ?_⟩
          simp only at e2
          have ef : f env2 S3 = (exs Φ Γ b env2 S3).map fun r => (r.1, wipeE r.2.1 wl, r.2.2) := by rw [← hf]
          cases ex' : exs Φ Γ b env2 S3 with
          | none =>
            rw [ex'] at ef
            simp only [ef, Option.map_none] at e2
            cases e2
          | some r5 =>
            rw [ex'] at ef
            simp only [Option.map_some] at ef
            rw [ef] at e2
            refine ⟨W3, env2, S3, r5, wd3, re2.le le3, ex', ?_⟩
            obtain ⟨fl, env5, S5⟩ := r5
            cases fl with
            | nx => exact fun W5 σ5 H5 le5 wd5 re5 => ⟨W5, _, S5, l3.trans le5, wd5, re5.forgetAll wl, e2⟩
            | ct => exact fun W5 σ5 H5 le5 wd5 re5 => ⟨W5, _, S5, l3.trans le5, wd5, re5.forgetAll wl, e2⟩
            | bk =>
              cases e2
              exact fun W5 σ5 H5 le5 wd5 re5 => q W5 σ5 H5 (l3.trans le5) wd5 (re5.forgetAll wl)
            | rt a =>
              cases e2
              exact fun W5 v H5 le5 wd5 r5 => q W5 v H5 (l3.trans le5) wd5 r5
end
end PV

/-! PV17: every statement that agrees with the text is sound. -/
namespace PV
open PySem PySem.Spec PyProof.Rows L2
section
variable {nm : Nm} {Φ : List Fs} {Γ : List PyData} {lv : Nat} {X : Cx}
theorem sw_eq {elt : Expr} {gs : List Comprehension} {scope : Scope} {p px : Pos} {x : Str} {l : Nat} (hk : X.env.scope.kind = .function) : swapsWith (.ListComp elt gs scope p) (some (.Name x px)) l X.env = pure (swB X.env.scope x px (.ListComp elt gs scope p)) := by
  have hb : X.env.blockKind = .function := by unfold Env.blockKind; rw [hk]; rfl
  unfold swapsWith swB
  simp only [hb]
  rfl
theorem sw_eqD {ka elt : Expr} {gs : List Comprehension} {scope : Scope} {p px : Pos} {x : Str} {l : Nat} (hk : X.env.scope.kind = .function) : swapsWith (.DictComp ka elt gs scope p) (some (.Name x px)) l X.env = pure (swB X.env.scope x px (.DictComp ka elt gs scope p)) := by
  have hb : X.env.blockKind = .function := by unfold Env.blockKind; rw [hk]; rfl
  unfold swapsWith swB
  simp only [hb]
  rfl
theorem swO_eq {ts vs : List Expr} {k k2 : Nat} {p p2 : Pos} {o : Option (List Str)} (hk : X.env.scope.kind = .function) (h : swO X.env.scope ts vs = some o) : swappedStores [.Tuple ts k p] (.Tuple vs k2 p2) X.env = pure o := by
  have hb : X.env.blockKind = .function := by unfold Env.blockKind; rw [hk]; rfl
  unfold swO at h
  unfold swappedStores
  simp only [hb, bne_self_eq_false, Bool.or_false]
  split at h
  · rename_i h1
    cases h
    simp only [h1, if_true]
  · rename_i h1
    refine (if_neg (by exact h1)).trans ?_
    split at h
    · rename_i h2
      cases h
      exact if_pos (by exact h2)
    · rename_i h2
      refine (if_neg (by exact h2)).trans ?_
      simp only at h
      split at h
      · rename_i h3
        cases h
        exact if_pos (by exact h3)
      · rename_i h3
        refine (if_neg (by exact h3)).trans ?_
        split at h
        · rename_i h4
          cases h
          exact if_pos h4
        · rename_i h4
          refine (if_neg h4).trans ?_
          split at h
          · cases h
          · rename_i h5
            cases h
            exact if_neg h5
theorem isLoc0_ok {sc : Scope} {x : Str} (h : isLoc0 sc x = true) : sc.names.lookup x = some .local := by
  unfold isLoc0 at h
  exact eq_of_beq h
theorem locT {ow : Str → Bool} {i : Nat} {x : Str} {px : Pos} (h : agT nm X.N X.env.scope ow true (.nm i) (.Name x px) = true) : X.N[i]? = some x := by
  simp only [agT, Bool.and_eq_true, decide_eq_true_eq] at h
  exact h.1
theorem q_par2 {i j : Nat} {es : Exs} {x y : Str} {a b : Expr} {px py pt pt2 pos : Pos} {k k2 : Nat} (at_ : At nm Φ Γ lv X) (hk : X.env.scope.kind = .function) (hi : X.N[i]? = some x) (hj : X.N[j]? = some y) (hij : i ≠ j) (hx : isLoc0 X.env.scope x = true) (hy : isLoc0 X.env.scope y = true)
    (hw : swO X.env.scope [.Name x px, .Name y py] [a, b] = some (some [x, y])) (ha : PA X [a, b] (rdA X.K Φ Γ es)) : PS X (.Assign [.Tuple [.Name x px, .Name y py] k pt] (.Tuple [a, b] k2 pt2) pos) (rdS X.K Φ Γ (.par (.cons (.nm i) (.cons (.nm j) .nil)) es)) := by
  refine PS_imp (ps_par at_.calm at_.nd hi hj hij (isLoc0_ok hx) (isLoc0_ok hy) ha (swO_eq hk hw) rfl) fun D σ H ⟨W, env, S, r, wd, re, e, q⟩ => ?_
  simp only [ex] at e
  split at e
  · cases e
  · rename_i as S1 e1
    cases e2 : bnds Φ Γ (.cons (.nm i) (.cons (.nm j) .nil)) as env S1 with
    | none =>
      rw [e2] at e
      cases e
    | some z =>
      rw [e2] at e
      cases e
      simp only [bnds, bnd] at e2
      split at e2
      · cases e2
      · rename_i a1 as1
        split at e2
        · cases e2
        · rename_i a2 as2
          split at e2
          · cases e2
            refine ⟨W, env, S, _, S1, wd, re, e1, fun W1 vs H1 le1 wd1 ra => ?_⟩
            cases ra with
            | cons r1 t =>
              cases t with
              | cons r2 t =>
                cases t
                exact ⟨_, _, rfl, q W1 _ H1 le1 wd1 (((re.le le1).set i r1).set j r2)⟩
          · cases e2
theorem q_par3 {i j l : Nat} {es : Exs} {x y z : Str} {a b c : Expr} {px py pz pt pt2 pos : Pos} {k k2 : Nat} (at_ : At nm Φ Γ lv X) (hk : X.env.scope.kind = .function) (hi : X.N[i]? = some x) (hj : X.N[j]? = some y) (hl : X.N[l]? = some z) (hij : i ≠ j) (hil : i ≠ l) (hjl : j ≠ l) (hx : isLoc0 X.env.scope x = true) (hy : isLoc0 X.env.scope y = true) (hz : isLoc0 X.env.scope z = true)
    (hw : swO X.env.scope [.Name x px, .Name y py, .Name z pz] [a, b, c] = some (some [x, y, z])) (ha : PA X [a, b, c] (rdA X.K Φ Γ es)) : PS X (.Assign [.Tuple [.Name x px, .Name y py, .Name z pz] k pt] (.Tuple [a, b, c] k2 pt2) pos) (rdS X.K Φ Γ (.par (.cons (.nm i) (.cons (.nm j) (.cons (.nm l) .nil))) es)) := by
  refine PS_imp (ps_par3 at_.calm at_.nd hi hj hl hij hil hjl (isLoc0_ok hx) (isLoc0_ok hy) (isLoc0_ok hz) ha (swO_eq hk hw) rfl) fun D σ H ⟨W, env, S, r, wd, re, e, q⟩ => ?_
  simp only [ex] at e
  split at e
  · cases e
  · rename_i as S1 e1
    cases e2 : bnds Φ Γ (.cons (.nm i) (.cons (.nm j) (.cons (.nm l) .nil))) as env S1 with
    | none =>
      rw [e2] at e
      cases e
    | some z =>
      rw [e2] at e
      cases e
      simp only [bnds, bnd] at e2
      split at e2
      · cases e2
      · split at e2
        · cases e2
        · split at e2
          · cases e2
          · split at e2
            · cases e2
              refine ⟨W, env, S, _, S1, wd, re, e1, fun W1 vs H1 le1 wd1 ra => ?_⟩
              cases ra with
              | cons r1 t =>
                cases t with
                | cons r2 t =>
                  cases t with
                  | cons r3 t =>
                    cases t
                    exact ⟨_, _, _, rfl, q W1 _ H1 le1 wd1 ((((re.le le1).set i r1).set j r2).set l r3)⟩
            · cases e2
theorem assignEach_len : ∀ (ys : List Expr) (env : Env), (assignEach ys env).length = ys.length
  | [], _ => rfl
  | y :: ys, env => by
    have ih := assignEach_len ys env
    cases y <;> (unfold assignEach; rw [List.length_cons, ih]; rfl)
theorem q_parT {ts : Tgs} {es : Exs} {ys xs : List Expr} {pt pt2 pos : Pos} {k k2 : Nat} {ow : Str → Bool} (at_ : At nm Φ Γ lv X) (hk : X.env.scope.kind = .function) (hl : xs.length ≤ 1000) (hyx : ys.length = xs.length) (hw : swO X.env.scope ys xs = some none) (ha' : agEs nm X.N X.env.scope ow es xs = true) (ht : agTs nm X.N X.env.scope ow true ts ys = true) (ha : PA X xs (rdA X.K Φ Γ es)) (hg : PGs X ys (rdGs X.K Φ Γ ts)) :
    PS X (.Assign [.Tuple ys k pt] (.Tuple xs k2 pt2) pos) (rdS X.K Φ Γ (.par ts es)) := by
  obtain ⟨l1, l2⟩ := assign_len (env := X.env) ht
  refine PS_imp (ps_asg (pe_tup ha) (pg_tup at_.calm hg l1 l2) rfl (swO_eq hk hw) rfl) fun D σ H ⟨W, env, S, r, wd, re, e, q⟩ => ?_
  simp only [ex] at e
  split at e
  · cases e
  · rename_i as S1 e1
    cases e2 : bnds Φ Γ ts as env S1 with
    | none =>
      rw [e2] at e
      cases e
    | some z =>
      rw [e2] at e
      cases e
      obtain ⟨env', S'⟩ := z
      have el := evs_len at_ e1 ha'
      refine ⟨W, env, S, as, S1, wd, re, e1, fun W1 vs H1 le1 wd1 ra => ⟨?_, fun p hn => ⟨p, vs, rfl, .inl (.inl upd_same), ?_, ?_⟩⟩⟩
      · rw [ra.length, el]
        exact Nat.le_of_lt (small1000 hl)
      · rw [ra.length, el, ← hyx]
        rw [← l1]
        exact (assignEach_len ys X.env).symm
      · have nF := wd1.freeF hn
        exact ⟨_, as, env, S1, env', S', wd1.pure hn, (re.le le1).le (.upd nF), ra.le (.upd nF), e2, fun W2 σ2 H2 le2 wd2 re2 _ => q W2 σ2 H2 ((le1.trans (.upd nF)).trans le2) wd2 re2⟩
/-! a comprehension into a plain name of its row -/
theorem n_of {e : Ex} (hd : ∀ env S a S', ev Φ Γ e env S = some (a, S') → ∃ ds, a = .d (.list ds)) : ∀ σ H Q, rdE X.K Φ Γ e σ H Q → rdN X.K Φ Γ e σ H Q := fun σ H Q ⟨W, env, S, a, S', wd, re, e1, q⟩ => by
  obtain ⟨ds, rfl⟩ := hd _ _ _ _ e1
  refine ⟨W, env, S, ds, S', wd, re, e1, fun W1 p vs H1 le1 wd1 nF nr nG hp r => ?_⟩
  exact q ⟨upd W1.F p (.lst vs), W1.ρ, W1.G, W1.L⟩ _ H1 (le1.trans (.upd nF)) (wd1.keep hp nF nr nG) (.lst upd_same (r.le (leF_upd nF)))
theorem f_of {e : Ex} (hd : ∀ env S a S', ev Φ Γ e env S = some (a, S') → ∃ ds, a = .d (.list ds)) : ∀ σ H Q, rdE X.K Φ Γ (.fresh e) σ H Q → rdN X.K Φ Γ e σ H Q := fun σ H Q ⟨W, env, S, a, S', wd, re, e1, q⟩ => by
  simp only [ev] at e1
  split at e1
  · rename_i x S1 e2
    split at e1
    · rename_i o eo
      cases e1
      obtain ⟨ds, ed⟩ := hd _ _ _ _ e2
      cases ed
      · cases eo
        refine ⟨W, env, S, ds, S1, wd, re, e2, fun W1 p vs H1 le1 wd1 nF nr nG hp r => ?_⟩
        refine q ⟨W1.F, W1.ρ ++ [p], W1.G, W1.L⟩ _ H1 (le1.trans .newOb) (wd1.newOb nr nG ⟨vs, hp, r, by simpa using nF⟩) ⟨p, ?_, rfl⟩
        show (W1.ρ ++ [p])[S1.length]? = some p
        rw [← wd1.len]
        simp
    · cases e1
  · cases e1
theorem lc_name {e : Ex} {i : Nat} {y : Str} {py : Pos} {x : Expr} {gs : List Comprehension} {scope : Scope} {pos spos : Pos} {ow : Str → Bool} (at_ : At nm Φ Γ lv X) (how : ∀ x, ow x = true → X.fn x = true) (hk : X.env.scope.kind = .function) (hy : X.N[i]? = some y) (hyl : isLoc0 X.env.scope y = true) (hsw : swB X.env.scope y py (.ListComp x gs scope pos) = true)
    (h : agE nm X.N X.env.scope ow e (.ListComp x gs scope pos) = true) : PS X (.Assign [.Name y py] (.ListComp x gs scope pos) spos) (rdS X.K Φ Γ (.asg (.nm i) e)) := by
  have core : ∀ {t : Tg} {it : Itx} {ifs : Exs} {a : Ex}, agE nm X.N X.env.scope ow (.comp t it ifs a) (.ListComp x gs scope pos) = true → (∀ σ H Q, rdE X.K Φ Γ e σ H Q → rdN X.K Φ Γ (.comp t it ifs a) σ H Q) → PS X (.Assign [.Name y py] (.ListComp x gs scope pos) spos) (rdS X.K Φ Γ (.asg (.nm i) e)) := fun {t it ifs a} h imp => by
    simp only [agE] at h
    split at h
    · rename_i heq
      injection heq with z1 z2 z3 z4
      subst z1 z2 z3 z4
      simp only [Bool.and_eq_true, decide_eq_true_eq] at h
      obtain ⟨⟨⟨⟨⟨⟨rfl, hb⟩, h1⟩, h2⟩, h3⟩, h4⟩, h5⟩ := h
      have q1 := i_s it X ow _ _ at_ how h1
      have pg := fun (s : Shared) (H : Hp) (C : Addr) (cl : List (Str × Addr)) (fp : List Addr) => t_s t (X.blk s H scope (compEnvC scope cl C X.env) fp) _ _ _ (at_.blk ..) (fun _ z => z) h2
      have pt := fun (s : Shared) (H : Hp) (C : Addr) (cl : List (Str × Addr)) (fp : List Addr) => ((es_s ifs (X.blk s H scope (compEnvC scope cl C X.env) fp) _ (at_.blk ..) (fun _ z => z)).1 _ h4).2.2.2.2.2
      have pe := fun (s : Shared) (H : Hp) (C : Addr) (cl : List (Str × Addr)) (fp : List Addr) => (e_s a (X.blk s H scope (compEnvC scope cl C X.env) fp) _ _ (at_.blk ..) (fun _ z => z) h5).1
      have n := c_compN (pos := pos) at_ hb q1.1 pg pt pe q1.2
      refine PS_imp (ps_unl (ps_setLc (g := rdG X.K Φ Γ t) (tt := rdTs X.K Φ Γ ifs) (te := rdE X.K Φ Γ a) at_.calm at_.nd hy (isLoc0_ok hyl) (by rw [sw_eq hk, hsw]) q1.1 (blkOk_by hb) pg pt pe q1.2)) fun D σ H rd => ?_
      refine n.1 _ _ _ (imp _ _ _ ?_)
      obtain ⟨W, env, S, r, wd, re, e, q⟩ := rd
      simp only [ex] at e
      split at e
      · cases e
      · rename_i a' S1 e1
        simp only [bnd, Option.map_some] at e
        cases e
        exact ⟨W, env, S, a', S1, wd, re, e1, fun W1 v1 H1 le1 wd1 r1 => q W1 _ H1 le1 wd1 ((re.le le1).set i r1)⟩
    · cases h
  cases e with
  | comp t it ifs a => exact core h (n_of fun env S a S' => comp_d)
  | fresh e' =>
    simp only [agE, Bool.and_eq_true] at h
    cases e' with
    | comp t it ifs a => exact core (by simpa only [agE] using h.2) (f_of fun env S a S' => comp_d)
    | _ => first | (have h2 := h.2; simp [agE] at h2; done) | (have h1 := h.1; simp at h1; done)
  | _ => simp [agE] at h
theorem nD_of {e : Ex} (hd : ∀ env S a S', ev Φ Γ e env S = some (a, S') → ∃ ds, a = .d (.dict ds)) : ∀ σ H Q, rdE X.K Φ Γ e σ H Q → rdND X.K Φ Γ e σ H Q := fun σ H Q ⟨W, env, S, a, S', wd, re, e1, q⟩ => by
  obtain ⟨ds, rfl⟩ := hd _ _ _ _ e1
  refine ⟨W, env, S, ds, S', wd, re, e1, fun W1 p vs H1 le1 wd1 nF nr nG hp r => ?_⟩
  exact q ⟨upd W1.F p (.dK vs), W1.ρ, W1.G, W1.L⟩ _ H1 (le1.trans (.upd nF)) (wd1.keep hp nF nr nG) (.dicK upd_same (r.le (leF_upd nF)))
theorem fD_of {e : Ex} (hd : ∀ env S a S', ev Φ Γ e env S = some (a, S') → ∃ ds, a = .d (.dict ds)) : ∀ σ H Q, rdE X.K Φ Γ (.fresh e) σ H Q → rdND X.K Φ Γ e σ H Q := fun σ H Q ⟨W, env, S, a, S', wd, re, e1, q⟩ => by
  simp only [ev] at e1
  split at e1
  · rename_i x S1 e2
    split at e1
    · rename_i o eo
      cases e1
      obtain ⟨ds, ed⟩ := hd _ _ _ _ e2
      cases ed
      · cases eo
        refine ⟨W, env, S, ds, S1, wd, re, e2, fun W1 p vs H1 le1 wd1 nF nr nG hp r => ?_⟩
        refine q ⟨W1.F, W1.ρ ++ [p], W1.G, W1.L⟩ _ H1 (le1.trans .newOb) (wd1.newOb nr nG ⟨vs, .inl hp, r, by simpa using nF⟩) ⟨p, ?_, rfl⟩
        show (W1.ρ ++ [p])[S1.length]? = some p
        rw [← wd1.len]
        simp
    · cases e1
  · cases e1
theorem dc_name {e : Ex} {i : Nat} {y : Str} {py : Pos} {kx x : Expr} {gs : List Comprehension} {scope : Scope} {pos spos : Pos} {ow : Str → Bool} (at_ : At nm Φ Γ lv X) (how : ∀ x, ow x = true → X.fn x = true) (hk : X.env.scope.kind = .function) (hy : X.N[i]? = some y) (hyl : isLoc0 X.env.scope y = true) (hsw : swB X.env.scope y py (.DictComp kx x gs scope pos) = true)
    (h : agE nm X.N X.env.scope ow e (.DictComp kx x gs scope pos) = true) : PS X (.Assign [.Name y py] (.DictComp kx x gs scope pos) spos) (rdS X.K Φ Γ (.asg (.nm i) e)) := by
  have core : ∀ {t : Tg} {it : Itx} {ifs : Exs} {ka a : Ex}, agE nm X.N X.env.scope ow (.dcomp t it ifs ka a) (.DictComp kx x gs scope pos) = true → (∀ σ H Q, rdE X.K Φ Γ e σ H Q → rdND X.K Φ Γ (.dcomp t it ifs ka a) σ H Q) → PS X (.Assign [.Name y py] (.DictComp kx x gs scope pos) spos) (rdS X.K Φ Γ (.asg (.nm i) e)) := fun {t it ifs ka a} h imp => by
    simp only [agE] at h
    split at h
    · rename_i heq
      injection heq with z0 z1 z2 z3 z4
      subst z0 z1 z2 z3 z4
      simp only [Bool.and_eq_true, decide_eq_true_eq] at h
      obtain ⟨⟨⟨⟨⟨⟨⟨rfl, hb⟩, h1⟩, h2⟩, h3⟩, h4⟩, h5⟩, h6⟩ := h
      have q1 := i_s it X ow _ _ at_ how h1
      have pg := fun (s : Shared) (H : Hp) (C : Addr) (cl : List (Str × Addr)) (fp : List Addr) => t_s t (X.blk s H scope (compEnvC scope cl C X.env) fp) _ _ _ (at_.blk ..) (fun _ z => z) h2
      have pt := fun (s : Shared) (H : Hp) (C : Addr) (cl : List (Str × Addr)) (fp : List Addr) => ((es_s ifs (X.blk s H scope (compEnvC scope cl C X.env) fp) _ (at_.blk ..) (fun _ z => z)).1 _ h4).2.2.2.2.2
      have pk := fun (s : Shared) (H : Hp) (C : Addr) (cl : List (Str × Addr)) (fp : List Addr) => (e_s ka (X.blk s H scope (compEnvC scope cl C X.env) fp) _ _ (at_.blk ..) (fun _ z => z) h5).1
      have pe := fun (s : Shared) (H : Hp) (C : Addr) (cl : List (Str × Addr)) (fp : List Addr) => (e_s a (X.blk s H scope (compEnvC scope cl C X.env) fp) _ _ (at_.blk ..) (fun _ z => z) h6).1
      have n := c_dcompN (pos := pos) at_ hb q1.1 pg pt pk pe q1.2
      refine PS_imp (ps_unl (ps_setDc (g := rdG X.K Φ Γ t) (tt := rdTs X.K Φ Γ ifs) (tk := rdE X.K Φ Γ ka) (tv := rdE X.K Φ Γ a) at_.calm at_.nd hy (isLoc0_ok hyl) (by rw [sw_eqD hk, hsw]) q1.1 (blkOk_by hb) pg pt pk pe q1.2)) fun D σ H rd => ?_
      refine n.1 _ _ _ (imp _ _ _ ?_)
      obtain ⟨W, env, S, r, wd, re, e, q⟩ := rd
      simp only [ex] at e
      split at e
      · cases e
      · rename_i a' S1 e1
        simp only [bnd, Option.map_some] at e
        cases e
        exact ⟨W, env, S, a', S1, wd, re, e1, fun W1 v1 H1 le1 wd1 r1 => q W1 _ H1 le1 wd1 ((re.le le1).set i r1)⟩
    · cases h
  cases e with
  | dcomp t it ifs ka a => exact core h (nD_of fun env S a S' => dcomp_d)
  | fresh e' =>
    simp only [agE, Bool.and_eq_true] at h
    cases e' with
    | dcomp t it ifs ka a => exact core (by simpa only [agE] using h.2) (fD_of fun env S a S' => dcomp_d)
    | _ => first | (have h2 := h.2; simp [agE] at h2; done) | (have h1 := h.1; simp at h1; done)
  | _ => simp [agE] at h
/-! all of them -/
theorem swapRow (v : Expr) (x : Str) (p : Pos) (l : Nat) (env : Env) (h : plainVal v = true) : swapsWithSole [.Name x p] v l env = pure false := by cases v <;> first | rfl | cases h
theorem storeRow (v : Expr) (x : Str) (p : Pos) (env : Env) : swappedStores [.Name x p] v env = pure none := by cases v <;> rfl
theorem swapSub (v a b : Expr) (p : Pos) (l : Nat) (env : Env) : swapsWithSole [.Subscript a b p] v l env = pure false := by cases v <;> rfl
theorem storeSub (v a b : Expr) (p : Pos) (env : Env) : swappedStores [.Subscript a b p] v env = pure none := by cases v <;> rfl
theorem swapTup (v : Expr) (xs : List Expr) (k : Nat) (p : Pos) (l : Nat) (env : Env) : swapsWithSole [.Tuple xs k p] v l env = pure false := by cases v <;> rfl
theorem storeTup (v : Expr) (xs : List Expr) (k : Nat) (p : Pos) (env : Env) (h : isTupE v = false) : swappedStores [.Tuple xs k p] v env = pure none := by cases v <;> first | rfl | cases h
theorem nm_of {ow : Str → Bool} {t : Tg} {x : Str} {p : Pos} (h : agT nm X.N X.env.scope ow true t (.Name x p) = true) : ∃ i, t = .nm i ∧ X.N[i]? = some x := by
  cases t with
  | nm i => exact ⟨i, rfl, locT h⟩
  | tp ts => simp [agT] at h
  | sub o i => simp [agT] at h
variable {ow : Str → Bool} (at_ : At nm Φ Γ lv X) (how : ∀ x, ow x = true → X.fn x = true) (hk : X.env.scope.kind = .function) (hp : PassesOwn (model X.prog X.w) X.A X.env X.xe)
include at_ how hk hp
theorem agts_nm {i : Nat} {ts : Tgs} {x : Str} {p : Pos} {ys : List Expr} (h : agTs nm X.N X.env.scope ow true (.cons (.nm i) ts) (.Name x p :: ys) = true) : X.N[i]? = some x ∧ agTs nm X.N X.env.scope ow true ts ys = true := by
  simp only [agTs, Bool.and_eq_true] at h
  exact ⟨locT h.1.2, h.2⟩
theorem two_of {a b : Expr} {xs : List Expr} (h : [a, b].length = xs.length) : ∃ c d, xs = [c, d] := by
  match xs, h with
  | [c, d], _ => exact ⟨c, d, rfl⟩
theorem three_of {a b c : Expr} {xs : List Expr} (h : [a, b, c].length = xs.length) : ∃ d e f, xs = [d, e, f] := by
  match xs, h with
  | [d, e, f], _ => exact ⟨d, e, f, rfl⟩
theorem par_s {ts : Tgs} {es : Exs} {ys xs : List Expr} {pt pt2 pos : Pos} {k k2 : Nat} (h1 : agTs nm X.N X.env.scope ow true ts ys = true) (h2 : agEs nm X.N X.env.scope ow es xs = true) (h3 : ys.length = xs.length) (h4 : agP X.env.scope ts ys xs = true) : PS X (.Assign [.Tuple ys k pt] (.Tuple xs k2 pt2) pos) (rdS X.K Φ Γ (.par ts es)) := by
  have pa := ((es_s es X ow at_ how).1 _ h2).1
  unfold agP at h4
  split at h4
  · cases h4
  · rename_i hw
    exact q_parT at_ hk (by simpa using h4) h3 hw h2 h1 pa (ts_s ts X ow true _ at_ how h1)
  · split at h4
    · split at h4
      · simp only [Bool.and_eq_true, decide_eq_true_eq] at h4
        obtain ⟨a1, h1⟩ := agts_nm at_ how hk hp h1
        obtain ⟨a2, h1⟩ := agts_nm at_ how hk hp h1
        obtain ⟨c, d, rfl⟩ := two_of at_ how hk hp h3
        exact q_par2 at_ hk a1 a2 h4.1.1.1 h4.1.1.2 h4.1.2 h4.2 pa
      · cases h4
    · split at h4
      · simp only [Bool.and_eq_true, decide_eq_true_eq] at h4
        obtain ⟨a1, h1⟩ := agts_nm at_ how hk hp h1
        obtain ⟨a2, h1⟩ := agts_nm at_ how hk hp h1
        obtain ⟨a3, h1⟩ := agts_nm at_ how hk hp h1
        obtain ⟨c, d, e, rfl⟩ := three_of at_ how hk hp h3
        exact q_par3 at_ hk a1 a2 a3 h4.1.1.1.1.1.1 h4.1.1.1.1.1.2 h4.1.1.1.1.2 h4.1.1.1.2 h4.1.1.2 h4.1.2 h4.2 pa
      · cases h4
    · cases h4
theorem asg_s {t : Tg} {e : Ex} {x : Str} {p pos : Pos} {v : Expr} (hv : (match v with | .ListComp _ _ _ _ => true | .DictComp _ _ _ _ _ => true | v => plainVal v) = true) (h1 : agT nm X.N X.env.scope ow true t (.Name x p) = true) (h2 : agE nm X.N X.env.scope ow e v = true) : PS X (.Assign [.Name x p] v pos) (rdS X.K Φ Γ (.asg t e)) := by
  have pe := (e_s e X ow v at_ how h2).1
  have pg := t_s t X ow true _ at_ how h1
  split at hv
  · rename_i elt gs scope vp
    by_cases hs : swB X.env.scope x p (.ListComp elt gs scope vp) = true
    · obtain ⟨i, rfl, hi⟩ := nm_of h1
      have hl : isLoc0 X.env.scope x = true := by
        unfold swB at hs
        simp only [Bool.and_eq_true] at hs
        exact hs.1.1
      exact lc_name at_ how hk hi hl hs h2
    · have hf : swB X.env.scope x p (.ListComp elt gs scope vp) = false := by simpa using hs
      exact q_asg ((sw_eq (X := X) (elt := elt) (gs := gs) (scope := scope) (p := vp) (px := p) (x := x) (l := pos.line) hk).trans (by rw [hf])) (storeRow ..) rfl pe pg
  · rename_i ka elt gs scope vp
    by_cases hs : swB X.env.scope x p (.DictComp ka elt gs scope vp) = true
    · obtain ⟨i, rfl, hi⟩ := nm_of h1
      have hl : isLoc0 X.env.scope x = true := by
        unfold swB at hs
        simp only [Bool.and_eq_true] at hs
        exact hs.1.1
      exact dc_name at_ how hk hi hl hs h2
    · have hf : swB X.env.scope x p (.DictComp ka elt gs scope vp) = false := by simpa using hs
      exact q_asg ((sw_eqD (X := X) (ka := ka) (elt := elt) (gs := gs) (scope := scope) (p := vp) (px := p) (x := x) (l := pos.line) hk).trans (by rw [hf])) (storeRow ..) rfl pe pg
  · exact q_asg (swapRow _ _ _ _ _ hv) (storeRow ..) rfl pe pg
mutual
theorem s_s : ∀ (s : Sx) (x : Stmt), agS nm X.N X.env.scope ow s x = true → PS X x (rdS X.K Φ Γ s)
  | .asg t e, x, h => by
    simp only [agS] at h
    split at h
    · simp only [Bool.and_eq_true] at h
      exact asg_s at_ how hk hp h.1.1 h.1.2 h.2
    · simp only [Bool.and_eq_true] at h
      exact q_asg (swapSub ..) (storeSub ..) rfl (e_s e X ow _ at_ how h.2).1 (t_s t X ow true _ at_ how h.1)
    · simp only [Bool.and_eq_true, Bool.not_eq_true'] at h
      exact q_asg (swapTup ..) (storeTup _ _ _ _ _ h.1.1) rfl (e_s e X ow _ at_ how h.2).1 (t_s t X ow true _ at_ how h.1.2)
    · cases h
  | .par ts es, x, h => by
    simp only [agS] at h
    split at h
    · simp only [Bool.and_eq_true, decide_eq_true_eq] at h
      exact par_s at_ how hk hp h.1.1.1 h.1.1.2 h.1.2 h.2
    · cases h
  | .app o e, x, h => by
    simp only [agS] at h
    split at h
    · simp only [Bool.and_eq_true, decide_eq_true_eq] at h
      obtain ⟨⟨⟨⟨⟨rfl, h1⟩, h2⟩, h3⟩, h4⟩, h5⟩ := h
      exact q_app h1 h2 h3 (e_s o X ow _ at_ how h4).1 (e_s e X ow _ at_ how h5).1
    · cases h
  | .ifs t a b, x, h => by
    simp only [agS] at h
    split at h
    · simp only [Bool.and_eq_true] at h
      exact q_if (e_s t X ow _ at_ how h.1.1).2.1 (ss_s a _ h.1.2) (ss_s b _ h.2)
    · cases h
  | .for_ t it b wl, x, h => by
    simp only [agS] at h
    split at h
    · simp only [Bool.and_eq_true] at h
      obtain ⟨q1, q2⟩ := i_s it X ow _ _ at_ how h.1.1.2
      exact q_for hp at_.calm q1 (t_s t X ow false _ at_ how h.1.2) (ss_s b _ h.2) q2
    · cases h
  | .whl n t b wl, x, h => by
    simp only [agS] at h
    split at h
    · simp only [Bool.and_eq_true] at h
      exact q_whl hp (e_s t X ow _ at_ how h.1).2.1 (ss_s b _ h.2)
    · cases h
  | .ret e, x, h => by
    simp only [agS] at h
    split at h
    · exact q_ret (e_s e X ow _ at_ how h).1
    · cases h
  | .retO e, x, h => by
    simp only [agS] at h
    split at h
    · exact q_retO (e_s e X ow _ at_ how h).1
    · cases h
  | .ret0, x, h => by
    simp only [agS] at h
    split at h
    · exact q_ret0
    · cases h
  | .exp e, x, h => by
    simp only [agS] at h
    split at h
    · simp only [Bool.and_eq_true] at h
      exact q_exp h.1 (e_s e X ow _ at_ how h.2).1
    · cases h
  | .brk, x, h => by
    simp only [agS] at h
    split at h
    · exact q_brk
    · cases h
  | .cnt, x, h => by
    simp only [agS] at h
    split at h
    · exact q_cnt
    · cases h
  | .pas, x, h => by
    simp only [agS] at h
    split at h
    · exact q_pas
    · cases h
theorem ss_s : ∀ (ss : Ss) (xs : List Stmt), agSs nm X.N X.env.scope ow ss xs = true → PSs X xs (rdSs X.K Φ Γ ss)
  | .nil, xs, h => by
    simp only [agSs] at h
    split at h
    · exact q_nil
    · cases h
  | .cons s ss, xs, h => by
    simp only [agSs] at h
    split at h
    · simp only [Bool.and_eq_true] at h
      exact q_cons (s_s s _ h.1) (ss_s ss _ h.2)
    · cases h
end
end
end PV

/-! PV18: defs, the law's end. -/
namespace PV
open PySem PySem.Spec PyProof.Rows L2
/-- a def: name, text, parameters, slots, term -/
structure Df where
  nm : Str
  st : Stmt
  np : Nat
  N : List Str
  b : Ss
def Df.ps (d : Df) : List Str := d.N.take d.np
def nmOf (ds : List Df) (gl : List Str) : Nm := ⟨ds.map fun d => (d.nm, d.np), gl⟩
noncomputable def Ph (Γ : List PyData) (ds : List Df) : Nat → List Fs
  | 0 => ds.map fun _ _ _ => none
  | k + 1 => ds.map fun d => run (Ph Γ ds k) Γ d.N.length d.b
def scOk (N P : List Str) (sc : Scope) : Bool :=
  decide (sc.kind = .function) && !sc.isCoroutine && !sc.isGenerator && decide N.Nodup && decide (N.take P.length = P) && P.all (fun x => decide (sc.names.lookup x = some .local) || decide (sc.names.lookup x = some .cell)) && sc.names.all (fun y => !decide (y.2 = .free))
theorem fnScope_of {N P : List Str} {sc : Scope} (h : scOk N P sc = true) : FnScope N P sc := by
  unfold scOk at h
  simp only [Bool.and_eq_true, Bool.not_eq_true', decide_eq_true_eq, List.all_eq_true, Bool.or_eq_true, decide_eq_false_iff_not] at h
  obtain ⟨⟨⟨⟨⟨⟨h1, h2⟩, h3⟩, h4⟩, h5⟩, h6⟩, h7⟩ := h
  exact ⟨h1, h2, h3, h4, h5, h6, h7⟩
def dfOk (nm : Nm) (d : Df) : Bool := decide (d.np ≤ d.N.length) && scOk d.N d.ps (defScope d.st) && agSs nm d.N (defScope d.st) (fun _ => true) d.b (defBody d.st)
section
variable {P : Program} {w : World} {K : PySem.W.Frag} {mg : Str → Option Value} {base : Heap} {Γ : List PyData} {ds : List Df} {gl : List Str}
/-- a def is there -/
def Is (K : PySem.W.Frag) (mg : Str → Option Value) (d : Df) : Prop := ∃ f fd, mg d.nm = some (.ref f) ∧ Fun K d.nm d.nm d.st f fd ∧ Binds K fd d.ps []
def Bs (mg : Str → Option Value) : Prop := ∀ x ∈ bltNames, mg x = none
def Gs (K : PySem.W.Frag) (mg : Str → Option Value) (Γ : List PyData) (gl : List Str) : Prop := ∀ (i : Nat) (x : Str), gl[i]? = some x → ∃ u v d, Γ[i]? = some d ∧ mg x = some u ∧ RelV v u ∧ ∀ F, Rp K F v d
def Mo (P : Program) (w : World) (K : PySem.W.Frag) (mg : Str → Option Value) (base : Heap) (Γ : List PyData) (ds : List Df) (k : Nat) : Prop := ∀ (i : Nat) (d : Df), ds[i]? = some d → ∃ m f fd, (Ph Γ ds k)[i]? = some m ∧ Fun K d.nm d.nm d.st f fd ∧ mg d.nm = some (.ref f) ∧ PySem.W.keepIn K (.ref f) = true ∧ FnOk P w K mg base CX0 k f fd d.ps (spF K d.np m) ∧ Binds K fd d.ps []
theorem run_ok {nm : Nm} {Φ : List Fs} {n : Nat} {N ps : List Str} {sc : Scope} {b : Ss} {x : List Stmt} {X : Cx} {vs : List V} {H : Hp} {Q : VK} (hN : N.length = n) (h : PSs X x (rdSs X.K Φ Γ b)) (sp : ∃ W S as r S', Wd X.K W H S ∧ RaA X.K W vs as ∧ run Φ Γ n b as S = some (r, S') ∧ Kt X.K W S' r Q) :
    rdSs X.K Φ Γ b { nx := fun _ H' => Q .non H', rt := Q } (L2.start N vs) H := by
  obtain ⟨W, S, as, r, S', wd, ra, e, q⟩ := sp
  unfold run at e
  have re : Re X.K W (L2.start N vs) (as.map some ++ List.replicate (n - as.length) none) := by
    unfold L2.start
    rw [hN, ra.length]
    exact Re.start ra _
  split at e
  · rename_i a env S1 e1
    cases e
    exact ⟨W, _, S, _, wd, re, e1, fun W' v H' le wd' r' => q W' v H' le wd' r'⟩
  · rename_i env S1 e1
    cases e
    exact ⟨W, _, S, _, wd, re, e1, fun W' σ' H' le wd' r' => q W' .non H' le wd' .non⟩
  · cases e
theorem mo_ok (hds : ∀ (i : Nat) (d : Df), ds[i]? = some d → Is K mg d) (hb : Bs mg) (hg : Gs K mg Γ gl) (hok : ds.all (dfOk (nmOf ds gl)) = true) : ∀ k, Mo P w K mg base Γ ds k
  | 0 => fun i d hd => by
    obtain ⟨f, fd, h1, h2, h3⟩ := hds i d hd
    refine ⟨fun _ _ => none, f, fd, by simp [Ph, hd], h2, h1, h2.kp, ⟨fun vs H Q E ⟨_, W, S, as, r, S', _, _, e, _⟩ => (by cases e), fun A outer s H args us vs Q E _ _ _ _ ⟨_, W, S, as, r, S', _, _, e, _⟩ => (by cases e)⟩, h3⟩
  | k + 1 => fun i d hd => by
    have ih := mo_ok hds hb hg hok k
    obtain ⟨f, fd, h1, h2, h3⟩ := hds i d hd
    have hdk : dfOk (nmOf ds gl) d = true := by
      rw [List.all_eq_true] at hok
      exact hok d (List.mem_of_getElem? hd)
    unfold dfOk at hdk
    simp only [Bool.and_eq_true, decide_eq_true_eq] at hdk
    obtain ⟨⟨q1, q2⟩, q3⟩ := hdk
    have S := fnScope_of q2
    have pl : d.ps.length = d.np := by
      unfold Df.ps
      rw [List.length_take]
      omega
    refine ⟨run (Ph Γ ds k) Γ d.N.length d.b, f, fd, by simp [Ph, hd], h2, h1, h2.kp, h2.ok S (fun vs H Q E ⟨e, _⟩ => by rw [e, pl]) fun cdv A outer s H vs Q E hr hsp => ?_, h3⟩
    have at_ : At (nmOf ds gl) (Ph Γ ds k) Γ k (cxOf CX0 P w K mg base d.N d.nm (defScope d.st) f cdv A outer s H E).nox := by
      refine ⟨rfl, S.nd, hr, fun j x n hj => ?_, hb, hg⟩
      unfold nmOf at hj
      simp only [List.getElem?_map, Option.map_eq_some_iff] at hj
      obtain ⟨d', hd', ee⟩ := hj
      cases ee
      obtain ⟨m, fA, fd', a1, _, a2, a3, a4, a5⟩ := ih j d' hd'
      exact ⟨m, fA, fd', d'.ps, a1, a2, a3, a4, a5⟩
    have ps := ss_s (ow := fun _ => true) at_ (fun _ _ => rfl) S.kind PassesOwn.never d.b (defBody d.st) q3
    exact ⟨_, ps, run_ok (nm := nmOf ds gl) (ps := d.ps) (sc := defScope d.st) rfl ps hsp.2⟩
/-- the law's end -/
def spL (K : PySem.W.Frag) : Sp := fun vs H Q _ => ∃ (a : Addr) (ns : List Int), vs = [.ref a] ∧ SqL K H a (ns.map V.int) ∧ ns.length ≤ 63 ∧ ∀ H', Q (.bl true) H'
theorem fun_one {x q : Str} {st : Stmt} {f : Addr} {fd fd' : FuncData} (a : Fun K x q st f fd) (b : Fun K x q st f fd') : fd = fd' := by
  obtain ⟨⟨_, _, _, _, _, _, _, _, _, _, l1, _⟩, _⟩ := a
  obtain ⟨⟨_, _, _, _, _, _, _, _, _, _, l2, _⟩, _⟩ := b
  rw [l1] at l2
  injection l2 with l2
  injection l2 with _ _ z _
  injection z
theorem law_ok {fa : Addr} {fd : FuncData} {i k : Nat} {d : Df} (hds : ∀ (i : Nat) (d : Df), ds[i]? = some d → Is K mg d) (hb : Bs mg) (hg : Gs K mg Γ gl) (hok : ds.all (dfOk (nmOf ds gl)) = true)
    (hd : ds[i]? = some d) (hp : d.ps = (["script"] : List Str)) (hF : Fun K d.nm d.nm d.st fa fd) (hfa : mg d.nm = some (.ref fa)) (hlaw : ∀ ns : List Int, ns.length ≤ 63 → ∃ m S, (Ph Γ ds k)[i]? = some m ∧ m [.seq ns] [] = some (.d (.bool true), S)) :
    FnOk P w K mg base CX0 k fa fd ["script"] (spL K) := by
  obtain ⟨m, f, fd', e1, eF, e2, e3, e4, e5⟩ := mo_ok (P := P) (w := w) (base := base) hds hb hg hok k i d hd
  rw [hfa] at e2
  cases e2
  cases fun_one hF eF
  rw [hp] at e4 e5
  refine e4.imp fun vs H Q E hs => ?_
  obtain ⟨a, ns, ev, hS, hl, q⟩ := hs
  subst ev
  obtain ⟨m', S', f1, f2⟩ := hlaw ns hl
  rw [e1] at f1
  cases f1
  have np : d.np = 1 := by
    have hdk : dfOk (nmOf ds gl) d = true := by
      rw [List.all_eq_true] at hok
      exact hok d (List.mem_of_getElem? hd)
    unfold dfOk at hdk
    simp only [Bool.and_eq_true, decide_eq_true_eq] at hdk
    have := congrArg List.length hp
    unfold Df.ps at this
    rw [List.length_take] at this
    have h1 := hdk.1.1
    simp at this
    omega
  refine ⟨by rw [np]; rfl, ⟨H, [], fun _ => none, fun _ => none⟩, [], [.seq ns], _, S', ⟨fun b u e => .inl e, rfl, List.nodup_nil, fun k a o e => by simp at e, fun a u e => (by cases e), fun a u e => by cases e⟩, .cons ⟨a, rfl, hS⟩ .nil, f2, fun W' v H' le wd r => ?_⟩
  cases r
  exact q H'
end
end PV

/-! PV19: the terms at work: the rows that compute. -/
namespace PV
open PySem PySem.Spec PyProof.Rows L2

theorem watC_none {β : Type} (S0 : Sto) (f : PyData → Sto → Option (Option β × Sto)) : watC none S0 f = f := by
  funext x S
  unfold watC
  cases f x S <;> simp [ckB]
theorem watF_none (S0 : Sto) (f : PyData → En → Sto → Option (Fl × En × Sto)) : watF none S0 f = f := by
  funext x env S
  unfold watF
  cases h : f x env S with
  | none => rfl
  | some r =>
    obtain ⟨fl, e1, S1⟩ := r
    cases fl <;> simp [ckB]
/-! the rows that compute -/
noncomputable section
variable (Φ : List Fs) (Γ : List PyData) (env : En) (S : Sto)
def cF (ia : PyData → A) (t : Tg) (ifs : Exs) (e : Ex) (env0 : En) : PyData → Sto → Option (Option PyData × Sto) := fun x S2 => match bnd Φ Γ t (ia x) env0 S2 with
        | none => none
        | some (env1, S3) => match evTs Φ Γ ifs env1 S3 with
          | none => none
          | some (false, S4) => some (none, S4)
          | some (true, S4) => match ev Φ Γ e env1 S4 with
            | none => none
            | some (y, S5) => match frz S5 y with
              | none => none
              | some (z, S6) => some (some z, S6)
theorem ev_comp (t : Tg) (it : Itx) (ifs : Exs) (e : Ex) : ev Φ Γ (.comp t it ifs e) env S = match evI Φ Γ it env S with
    | none => none
    | some (xs, w, S1) => match compL (watC w S1 (cF Φ Γ (itA it) t ifs e (wipeE env t.slots))) xs S1 with
      | none => none
      | some (ys, S2) => some (.d (.list ys), unlF w S2) := by
  rw [ev]
  rfl
def dcF (ia : PyData → A) (t : Tg) (ifs : Exs) (k e : Ex) (env0 : En) : PyData → Sto → Option (Option (PyData × PyData) × Sto) := fun x S2 => match bnd Φ Γ t (ia x) env0 S2 with
        | none => none
        | some (env1, S3) => match evTs Φ Γ ifs env1 S3 with
          | none => none
          | some (false, S4) => some (none, S4)
          | some (true, S4) => match ev Φ Γ k env1 S4 with
            | some (.d y, S5) => match ev Φ Γ e env1 S5 with
              | none => none
              | some (b, S6) => match frz S6 b with
                | none => none
                | some (z, S7) => some (some (y, z), S7)
            | _ => none
theorem ev_dcomp (t : Tg) (it : Itx) (ifs : Exs) (k e : Ex) : ev Φ Γ (.dcomp t it ifs k e) env S = match evI Φ Γ it env S with
    | none => none
    | some (xs, w, S1) => match compDL (watC w S1 (dcF Φ Γ (itA it) t ifs k e (wipeE env t.slots))) xs [] S1 with
      | none => none
      | some (kvs, S2) => some (.d (.dict kvs), unlF w S2) := by
  rw [ev]
  rfl
def fF (ia : PyData → A) (t : Tg) (b : Ss) (wl : List Nat) : PyData → En → Sto → Option (Fl × En × Sto) := fun x env S => match bnd Φ Γ t (ia x) env S with
        | none => none
        | some (env1, S1) => (exs Φ Γ b env1 S1).map fun r => (r.1, wipeE r.2.1 wl, r.2.2)
theorem ex_for (t : Tg) (it : Itx) (b : Ss) (wl : List Nat) : ex Φ Γ (.for_ t it b wl) env S = match evI Φ Γ it env S with
    | none => none
    | some (xs, w, S1) => forL (watF w S1 (fF Φ Γ (itA it) t b wl)) xs env S1 := by
  rw [ex]
  rfl
def wF (b : Ss) (wl : List Nat) : En → Sto → Option (Fl × En × Sto) := fun env S => (exs Φ Γ b env S).map fun r => (r.1, wipeE r.2.1 wl, r.2.2)
theorem ex_whl (n : Nat) (t : Ex) (b : Ss) (wl : List Nat) : ex Φ Γ (.whl n t b wl) env S = whlL (evT Φ Γ t) (wF Φ Γ b wl) n env S := by
  rw [ex]
  rfl
theorem evT_some {t : Ex} {a : A} {S1 : Sto} (h : ev Φ Γ t env S = some (a, S1)) : evT Φ Γ t env S = (tru S1 a).map fun c => (c, S1) := by
  unfold evT
  rw [h]
@[simp] theorem deref_d (x : PyData) : deref S (.d x) = some x := rfl
@[simp] theorem tru_bool (b : Bool) : tru S (.d (.bool b)) = some b := rfl
@[simp] theorem tru_int (i : Int) : tru S (.d (.int i)) = some (i != 0) := rfl
@[simp] theorem tru_none : tru S (.d .none) = some false := rfl
@[simp] theorem tru_list (xs : List PyData) : tru S (.d (.list xs)) = some (!xs.isEmpty) := rfl
@[simp] theorem tru_tuple (xs : List PyData) : tru S (.d (.tuple xs)) = some (!xs.isEmpty) := rfl
@[simp] theorem binF_d (o : Operator) (x y : PyData) : binF o (.d x) (.d y) S = (binD o x y).map .d := rfl
@[simp] theorem cmpF_eq (x y : PyData) : cmpF .Eq (.d x) (.d y) S = eqvD x y := rfl
@[simp] theorem cmpF_ne (x y : PyData) : cmpF .NotEq (.d x) (.d y) S = (eqvD x y).map (!·) := rfl
@[simp] theorem cmpF_lt (x y : PyData) : cmpF .Lt (.d x) (.d y) S = ltD x y := rfl
@[simp] theorem cmpF_le (i j : Int) : cmpF .LtE (.d (.int i)) (.d (.int j)) S = some (decide (i ≤ j)) := rfl
@[simp] theorem cmpF_gt (i j : Int) : cmpF .Gt (.d (.int i)) (.d (.int j)) S = some (decide (j < i)) := rfl
@[simp] theorem cmpF_ge (i j : Int) : cmpF .GtE (.d (.int i)) (.d (.int j)) S = some (decide (j ≤ i)) := rfl
@[simp] theorem cmpF_in (x y : PyData) : cmpF .In (.d x) (.d y) S = inD x y := rfl
@[simp] theorem cmpF_nin (x y : PyData) : cmpF .NotIn (.d x) (.d y) S = (inD x y).map (!·) := rfl
@[simp] theorem cmpF_is (a : A) (y : PyData) : cmpF .Is a (.d y) S = isD a y := rfl
@[simp] theorem cmpF_isn (a : A) (y : PyData) : cmpF .IsNot a (.d y) S = (isD a y).map (!·) := rfl
@[simp] theorem ltD_int (i j : Int) : ltD (.int i) (.int j) = some (decide (i < j)) := by
  unfold ltD okLt
  simp [PySem.W.alike, noDic, notNone, PyData.depth, ltB]
@[simp] theorem eqvD_int (i j : Int) : eqvD (.int i) (.int j) = some (decide (i = j)) := by
  have h : PyData.eqv (.int i) (.int j) = decide (i = j) := by
    rw [Bool.eq_iff_iff]
    simp [PyData.eqv]
  unfold eqvD okEq
  simp [atomD, h]
@[simp] theorem eqvD_str (i j : Str) : eqvD (.str i) (.str j) = some (decide (i = j)) := by
  have h : PyData.eqv (.str i) (.str j) = decide (i = j) := by
    rw [Bool.eq_iff_iff]
    simp [PyData.eqv]
  unfold eqvD okEq
  simp [atomD, h]
@[simp] theorem eqvD_bool (i j : Bool) : eqvD (.bool i) (.bool j) = some (decide (i = j)) := by
  unfold eqvD okEq
  cases i <;> cases j <;> simp [atomD, PyData.eqv]
@[simp] theorem ixF_d (x i : PyData) : ixF (.d x) (.d i) S = (ixD x i).map .d := rfl
theorem ixF_tup (xs : List PyData) (i : PyData) : ixF (.d (.tuple xs)) (.d i) S = (ixD (.tuple xs) i).map .d := rfl
@[simp] theorem frz_d (x : PyData) : frz S (.d x) = some (x, S) := rfl
@[simp] theorem frzAll_nil : frzAll [] S = some ([], S) := rfl
@[simp] theorem frzAll_d (x : PyData) (as : List A) : frzAll (.d x :: as) S = match frzAll as S with
    | none => none
    | some (xs, S2) => some (x :: xs, S2) := rfl
theorem ty_ll : (Ty.list == Ty.list) = true := rfl
theorem ty_lt : (Ty.list == Ty.tuple) = false := rfl
theorem ty_ls : (Ty.list == Ty.str) = false := rfl
theorem ty_li : (Ty.list == Ty.int) = false := rfl
theorem ty_lb : (Ty.list == Ty.bool) = false := rfl
theorem ty_tl : (Ty.tuple == Ty.list) = false := rfl
theorem ty_tt : (Ty.tuple == Ty.tuple) = true := rfl
theorem ty_ts : (Ty.tuple == Ty.str) = false := rfl
theorem ty_ti : (Ty.tuple == Ty.int) = false := rfl
theorem ty_tb : (Ty.tuple == Ty.bool) = false := rfl
theorem ty_sl : (Ty.str == Ty.list) = false := rfl
theorem ty_st : (Ty.str == Ty.tuple) = false := rfl
theorem ty_ss : (Ty.str == Ty.str) = true := rfl
theorem ty_si : (Ty.str == Ty.int) = false := rfl
theorem ty_sb : (Ty.str == Ty.bool) = false := rfl
theorem ty_il : (Ty.int == Ty.list) = false := rfl
theorem ty_it : (Ty.int == Ty.tuple) = false := rfl
theorem ty_is : (Ty.int == Ty.str) = false := rfl
theorem ty_ii : (Ty.int == Ty.int) = true := rfl
theorem ty_ib : (Ty.int == Ty.bool) = false := rfl
theorem ty_bl : (Ty.bool == Ty.list) = false := rfl
theorem ty_bt : (Ty.bool == Ty.tuple) = false := rfl
theorem ty_bs : (Ty.bool == Ty.str) = false := rfl
theorem ty_bi : (Ty.bool == Ty.int) = false := rfl
theorem ty_bb : (Ty.bool == Ty.bool) = true := rfl
@[simp] theorem bltF_d (b : Bl) (x : PyData) : bltF b [.d x] S = (bltD b x).map .d := rfl
theorem bltF_dd (b : Bl) (x y : PyData) : bltF b [.d x, .d y] S = (bltD2 b x y).map .d := rfl
@[simp] theorem len_list (xs : List PyData) : lenD (.list xs) = some (xs.length : Int) := rfl
@[simp] theorem len_tuple (xs : List PyData) : lenD (.tuple xs) = some (xs.length : Int) := rfl
@[simp] theorem seqF_list (xs : List PyData) : seqF (.d (.list xs)) S = some (xs, none) := rfl
@[simp] theorem seqF_tuple (xs : List PyData) : seqF (.d (.tuple xs)) S = some (xs, none) := rfl
theorem rngF_ok {i j : Int} (h0 : 0 ≤ i) (h1 : j ≤ 16777216) (h2 : i ≤ 16777216) (h3 : 0 ≤ j) : rngF i j = some (rngD i (j - i).toNat) := by
  unfold rngF
  rw [if_pos (by omega)]
theorem rng_nat (n : Nat) (h : n ≤ 16777216) : rngF 0 (n : Int) = some ((List.range n).map fun k => PyData.int (k : Nat)) := by
  rw [rngF_ok (by omega) (by omega) (by omega) (by omega)]
  unfold rngD
  simp
end

section
variable (Φ : List Fs) (Γ : List PyData) (env : En) (S : Sto)
@[simp] theorem ev_var (i : Nat) : ev Φ Γ (.var i) env S = match env[i]? with
    | some (some a) => some (a, S)
    | _ => none := by
  first | (rw [ev]; done) | (rw [ev]; rfl)
@[simp] theorem ev_cst (c : PyData) : ev Φ Γ (.cst c) env S = some (.d c, S) := by
  first | (rw [ev]; done) | (rw [ev]; rfl)
theorem ev_glb (i : Nat) : ev Φ Γ (.glb i) env S = match Γ[i]? with
    | some x => some (.d x, S)
    | none => none := by
  first | (rw [ev]; done) | (rw [ev]; rfl)
@[simp] theorem ev_tup (es : Exs) : ev Φ Γ (.tup es) env S = match evs Φ Γ es env S with
    | none => none
    | some (as, S1) => match frzAll as S1 with
      | some (xs, S2) => some (.d (.tuple xs), S2)
      | none => match as with
        | [a, b] => some (.pr a b, S1)
        | _ => none := by
  first | (rw [ev]; done) | (rw [ev]; rfl)
@[simp] theorem ev_lst (es : Exs) : ev Φ Γ (.lst es) env S = match evs Φ Γ es env S with
    | none => none
    | some (as, S1) => match frzAll as S1 with
      | some (xs, S2) => some (.d (.list xs), S2)
      | none => none := by
  first | (rw [ev]; done) | (rw [ev]; rfl)
theorem ev_fresh (e : Ex) : ev Φ Γ (.fresh e) env S = match ev Φ Γ e env S with
    | some (.d x, S1) => match newOb x with
      | some o => some (.obj S1.length, S1 ++ [o])
      | none => none
    | _ => none := by
  first | (rw [ev]; done) | (rw [ev]; rfl)
@[simp] theorem ev_bin (o : Operator) (a b : Ex) : ev Φ Γ (.bin o a b) env S = match ev Φ Γ a env S with
    | none => none
    | some (x, S1) => match ev Φ Γ b env S1 with
      | none => none
      | some (y, S2) => (binF o x y S2).map fun c => (c, S2) := by
  first | (rw [ev]; done) | (rw [ev]; rfl)
@[simp] theorem ev_neg (a : Ex) : ev Φ Γ (.neg a) env S = match ev Φ Γ a env S with
    | some (.d (.int i), S1) => some (.d (.int (-i)), S1)
    | _ => none := by
  first | (rw [ev]; done) | (rw [ev]; rfl)
@[simp] theorem ev_cmp (o : CmpOp) (a b : Ex) : ev Φ Γ (.cmp o a b) env S = match ev Φ Γ a env S with
    | none => none
    | some (x, S1) => match ev Φ Γ b env S1 with
      | none => none
      | some (y, S2) => (cmpF o x y S2).map fun c => (.d (.bool c), S2) := by
  first | (rw [ev]; done) | (rw [ev]; rfl)
theorem ev_chn (o p : CmpOp) (a b c : Ex) : ev Φ Γ (.chn o p a b c) env S = match ev Φ Γ a env S with
    | none => none
    | some (x, S1) => match ev Φ Γ b env S1 with
      | none => none
      | some (y, S2) => match cmpF o x y S2 with
        | none => none
        | some false => some (.d (.bool false), S2)
        | some true => match ev Φ Γ c env S2 with
          | none => none
          | some (z, S3) => (cmpF p y z S3).map fun c => (.d (.bool c), S3) := by
  first | (rw [ev]; done) | (rw [ev]; rfl)
@[simp] theorem ev_and (es : Exs) : ev Φ Γ (.and es) env S = evAnd Φ Γ es env S := by
  first | (rw [ev]; done) | (rw [ev]; rfl)
@[simp] theorem ev_or (es : Exs) : ev Φ Γ (.or es) env S = evOr Φ Γ es env S := by
  first | (rw [ev]; done) | (rw [ev]; rfl)
@[simp] theorem ev_not (a : Ex) : ev Φ Γ (.not a) env S = match ev Φ Γ a env S with
    | none => none
    | some (x, S1) => (tru S1 x).map fun c => (.d (.bool !c), S1) := by
  first | (rw [ev]; done) | (rw [ev]; rfl)
@[simp] theorem ev_ite (t a b : Ex) : ev Φ Γ (.ite t a b) env S = match ev Φ Γ t env S with
    | none => none
    | some (x, S1) => match tru S1 x with
      | none => none
      | some true => ev Φ Γ a env S1
      | some false => ev Φ Γ b env S1 := by
  first | (rw [ev]; done) | (rw [ev]; rfl)
@[simp] theorem ev_ix (a i : Ex) : ev Φ Γ (.ix a i) env S = match ev Φ Γ a env S with
    | none => none
    | some (x, S1) => match ev Φ Γ i env S1 with
      | none => none
      | some (y, S2) => (ixF x y S2).map fun c => (c, S2) := by
  first | (rw [ev]; done) | (rw [ev]; rfl)
theorem ev_slc (a : Ex) (lo hi : Exs) : ev Φ Γ (.slc a lo hi) env S = match ev Φ Γ a env S with
    | none => none
    | some (x, S1) => match evOpt Φ Γ lo env S1 with
      | none => none
      | some (l, S2) => match evOpt Φ Γ hi env S2 with
        | none => none
        | some (h, S3) => match deref S3 x with
          | none => none
          | some y => (slcD y l h).map fun c => (.d c, S3) := by
  first | (rw [ev]; done) | (rw [ev]; rfl)
theorem ev_call (f : Nat) (es : Exs) : ev Φ Γ (.call f es) env S = match evs Φ Γ es env S with
    | none => none
    | some (as, S1) => match Φ[f]? with
      | none => none
      | some m => match m as S1 with
        | none => none
        | some (r, S2) => some (r, gc r S1 S2) := by
  first | (rw [ev]; done) | (rw [ev]; rfl)
@[simp] theorem ev_blt (b : Bl) (es : Exs) : ev Φ Γ (.blt b es) env S = match evs Φ Γ es env S with
    | none => none
    | some (as, S1) => (bltF b as S1).map fun c => (c, S1) := by
  first | (rw [ev]; done) | (rw [ev]; rfl)
theorem ev_isi (a : Ex) (ts : List Ty) : ev Φ Γ (.isi a ts) env S = match ev Φ Γ a env S with
    | none => none
    | some (x, S1) => match deref S1 x with
      | none => none
      | some (.dict _) => none
      | some y => some (.d (.bool (ts.any fun t => typeOk y t)), S1) := by
  first | (rw [ev]; done) | (rw [ev]; rfl)
theorem ev_lrg (a : Ex) : ev Φ Γ (.lrg a) env S = match ev Φ Γ a env S with
    | some (.d (.int j), S1) => (rngF 0 j).map fun xs => (.d (.list xs), S1)
    | _ => none := by
  first | (rw [ev]; done) | (rw [ev]; rfl)
end
section
variable (Φ : List Fs) (Γ : List PyData) (env : En) (S : Sto)
theorem ev_dnew : ev Φ Γ .dnew env S = some (.d (.dict []), S) := by rw [ev]
theorem ev_d1 (k e : Ex) : ev Φ Γ (.d1 k e) env S = match ev Φ Γ k env S with
    | some (.d x, S1) => match ev Φ Γ e env S1 with
      | none => none
      | some (a, S2) => match frz S2 a with
        | some (v, S3) => if (keyD x).isSome = true then some (.d (.dict [(x, v)]), S3) else none
        | none => none
    | _ => none := by
  first | (rw [ev]; done) | (rw [ev]; rfl)
theorem ev_dget (o k : Ex) : ev Φ Γ (.dget o k) env S = match ev Φ Γ o env S with
    | none => none
    | some (a, S1) => match deref S1 a with
      | some (.dict _) => match ev Φ Γ k env S1 with
        | some (.d x, S2) => match deref S2 a with
          | some d => (getdD d x).map fun r => (.d (r.getD .none), S2)
          | none => none
        | _ => none
      | _ => none := by
  first | (rw [ev]; done) | (rw [ev]; rfl)
theorem ev_dgetd (o k f : Ex) : ev Φ Γ (.dgetd o k f) env S = match ev Φ Γ o env S with
    | none => none
    | some (a, S1) => match deref S1 a with
      | some (.dict _) => match ev Φ Γ k env S1 with
        | some (.d x, S2) => match ev Φ Γ f env S2 with
          | some (.d y, S3) => match deref S3 a with
            | some d => (getdD d x).map fun r => (.d (r.getD y), S3)
            | none => none
          | _ => none
        | _ => none
      | _ => none := by
  first | (rw [ev]; done) | (rw [ev]; rfl)
theorem ev_dpop (o k : Ex) : ev Φ Γ (.dpop o k) env S = match ev Φ Γ o env S with
    | none => none
    | some (a, S1) => match deref S1 a with
      | some (.dict _) => match ev Φ Γ k env S1 with
        | some (.d x, S2) => (dpopF a x S2).map fun r => (.d r.1, r.2)
        | _ => none
      | _ => none := by
  first | (rw [ev]; done) | (rw [ev]; rfl)
theorem ev_its (srt : Bool) (o : Ex) : ev Φ Γ (.its srt o) env S = match ev Φ Γ o env S with
    | none => none
    | some (a, S1) => match deref S1 a with
      | some (.dict kvs) => if srt = true then (sortD (itmD kvs)).map fun xs => (.d (.list xs), S1) else some (.d (.list (itmD kvs)), S1)
      | _ => none := by
  first | (rw [ev]; done) | (rw [ev]; rfl)
theorem ev_lrg2 (a b : Ex) : ev Φ Γ (.lrg2 a b) env S = match ev Φ Γ a env S with
    | some (.d (.int i), S1) => match ev Φ Γ b env S1 with
      | some (.d (.int j), S2) => (rngF i j).map fun xs => (.d (.list xs), S2)
      | _ => none
    | _ => none := by
  first | (rw [ev]; done) | (rw [ev]; rfl)
end
theorem atI_nat {α : Type} (xs : List α) (i : Nat) (h : i < xs.length) : atI xs (i : Int) = some xs[i] := by
  unfold atI ixN
  rw [if_pos (by omega), if_pos (by omega)]
  simp [h]
@[simp] theorem atI_0 {α : Type} (x : α) (xs : List α) : atI (x :: xs) 0 = some x := atI_nat (x :: xs) 0 (by simp)
@[simp] theorem atI_1 {α : Type} (x y : α) (xs : List α) : atI (x :: y :: xs) 1 = some y := atI_nat (x :: y :: xs) 1 (by simp)
@[simp] theorem atI_2 {α : Type} (x y z : α) (xs : List α) : atI (x :: y :: z :: xs) 2 = some z := atI_nat (x :: y :: z :: xs) 2 (by simp)
@[simp] theorem atI_3 {α : Type} (x y z u : α) (xs : List α) : atI (x :: y :: z :: u :: xs) 3 = some u := atI_nat (x :: y :: z :: u :: xs) 3 (by simp)
theorem ixN_1 (n : Nat) (h : 1 < n) : ixN n 1 = some 1 := by unfold ixN; rw [if_pos (by omega), if_pos (by omega)]; rfl
theorem ixN_2 (n : Nat) (h : 2 < n) : ixN n 2 = some 2 := by unfold ixN; rw [if_pos (by omega), if_pos (by omega)]; rfl
theorem ixN_3 (n : Nat) (h : 3 < n) : ixN n 3 = some 3 := by unfold ixN; rw [if_pos (by omega), if_pos (by omega)]; rfl

theorem gc_same (r : A) (S : Sto) : gc r S S = S := by
  unfold gc
  split
  · rw [List.take_length]
    split <;> rfl
  · rfl
theorem gc_len {x : PyData} {S S' : Sto} (h : S'.length = S.length) : gc (.d x) S S' = S' := by
  unfold gc
  rw [← h, List.take_length]
  simp
/-- a comprehension's loop that leaves the store -/
theorem compL_map {α : Type} (enc : α → PyData) (f : PyData → Sto → Option (Option PyData × Sto)) (g : α → Option PyData) (S : Sto) : ∀ (xs : List α), (∀ x ∈ xs, f (enc x) S = some (g x, S)) → compL f (xs.map enc) S = some (xs.filterMap g, S)
  | [], _ => rfl
  | x :: xs, h => by
    rw [List.map_cons, compL, h x (by simp)]
    simp only
    rw [compL_map enc f g S xs fun y hy => h y (by simp [hy])]
    simp only
    cases e : g x <;> simp [e]
theorem compL_all (f : PyData → Sto → Option (Option PyData × Sto)) (S : Sto) (z : PyData) : ∀ (xs : List PyData), (∀ x ∈ xs, f x S = some (some z, S)) → compL f xs S = some (List.replicate xs.length z, S)
  | [], _ => rfl
  | x :: xs, h => by
    rw [compL, h x (by simp)]
    simp only
    rw [compL_all f S z xs fun y hy => h y (by simp [hy])]
    rfl
theorem boolsD_rep : ∀ n : Nat, boolsD (List.replicate n (.bool true)) = some (List.replicate n true)
  | 0 => rfl
  | n + 1 => by
    rw [List.replicate_succ, boolsD, boolsD_rep n]
    rfl
/-! rules -/
section
variable {Φ : List Fs} {Γ : List PyData} {env e1 : En} {S S1 S2 : Sto} {s : Sx} {ss : Ss} {t e : Ex} {a b : Ss} {r : Option (Fl × En × Sto)}
theorem r_nx (h : ex Φ Γ s env S = some (.nx, e1, S1)) (h2 : exs Φ Γ ss e1 S1 = r) : exs Φ Γ (.cons s ss) env S = r := by rw [exs, h]; exact h2
theorem r_rt {v : A} (h : ex Φ Γ s env S = some (.rt v, e1, S1)) : exs Φ Γ (.cons s ss) env S = some (.rt v, e1, S1) := by rw [exs, h]
theorem r_ct (h : ex Φ Γ s env S = some (.ct, e1, S1)) : exs Φ Γ (.cons s ss) env S = some (.ct, e1, S1) := by rw [exs, h]
theorem r_bk (h : ex Φ Γ s env S = some (.bk, e1, S1)) : exs Φ Γ (.cons s ss) env S = some (.bk, e1, S1) := by rw [exs, h]
theorem r_nil : exs Φ Γ .nil env S = some (.nx, env, S) := by rw [exs]
theorem r_ev {k : Bool} (h : ev Φ Γ t env S = some (.d (.bool k), S1)) : evT Φ Γ t env S = some (k, S1) := by rw [evT, h]; rfl
theorem r_evv {k : Bool} {v : A} (h : ev Φ Γ t env S = some (v, S1)) (h2 : tru S1 v = some k) : evT Φ Γ t env S = some (k, S1) := by rw [evT, h]; simp [h2]
theorem r_ifT (h : ev Φ Γ t env S = some (.d (.bool true), S1)) (h2 : exs Φ Γ a env S1 = r) : ex Φ Γ (.ifs t a b) env S = r := by rw [ex, r_ev h]; exact h2
theorem r_ifF (h : ev Φ Γ t env S = some (.d (.bool false), S1)) (h2 : exs Φ Γ b env S1 = r) : ex Φ Γ (.ifs t a b) env S = r := by rw [ex, r_ev h]; exact h2
theorem r_if {k : Bool} (h : ev Φ Γ t env S = some (.d (.bool k), S1)) (h2 : (if k = true then exs Φ Γ a env S1 else exs Φ Γ b env S1) = r) : ex Φ Γ (.ifs t a b) env S = r := by
  rw [ex, r_ev h]
  cases k <;> simpa using h2
theorem r_ifv {k : Bool} {v : A} (h : ev Φ Γ t env S = some (v, S1)) (hk : tru S1 v = some k) (h2 : (if k = true then exs Φ Γ a env S1 else exs Φ Γ b env S1) = r) : ex Φ Γ (.ifs t a b) env S = r := by
  rw [ex, r_evv h hk]
  cases k <;> simpa using h2
theorem r_asg {i : Nat} {v : A} (h : ev Φ Γ e env S = some (v, S1)) : ex Φ Γ (.asg (.nm i) e) env S = some (.nx, env.set i (some v), S1) := by rw [ex, h]; simp [bnd]
theorem r_asgt {tg : Tg} {v : A} (h : ev Φ Γ e env S = some (v, S1)) (h2 : bnd Φ Γ tg v env S1 = some (e1, S2)) : ex Φ Γ (.asg tg e) env S = some (.nx, e1, S2) := by rw [ex, h]; simp [h2]
theorem r_par {ts : Tgs} {es : Exs} {vs : List A} (h : evs Φ Γ es env S = some (vs, S1)) (h2 : bnds Φ Γ ts vs env S1 = some (e1, S2)) : ex Φ Γ (.par ts es) env S = some (.nx, e1, S2) := by rw [ex, h]; simp [h2]
theorem r_ret {x : PyData} (h : ev Φ Γ e env S = some (.d x, S1)) : ex Φ Γ (.ret e) env S = some (.rt (.d x), env, S1) := by rw [ex, h]; rfl
theorem r_for {tg : Tg} {it : Itx} {wl : List Nat} {xs : List PyData} (h : evI Φ Γ it env S = some (xs, none, S1)) (h2 : forL (fF Φ Γ (itA it) tg b wl) xs env S1 = r) : ex Φ Γ (.for_ tg it b wl) env S = r := by rw [ex_for, h]; simp only [watF_none]; exact h2
theorem r_run {n : Nat} {as : List A} {v : A} (h : exs Φ Γ a (as.map some ++ List.replicate (n - as.length) none) S = some (.rt v, e1, S1)) : run Φ Γ n a as S = some (v, S1) := by rw [run, h]
theorem r_run0 {n : Nat} {as : List A} (h : exs Φ Γ a (as.map some ++ List.replicate (n - as.length) none) S = some (.nx, e1, S1)) : run Φ Γ n a as S = some (.d .none, S1) := by rw [run, h]
theorem r_call {f : Nat} {es : Exs} {as : List A} {m : Fs} {v : A} (h : evs Φ Γ es env S = some (as, S1)) (hf : Φ[f]? = some m) (hm : m as S1 = some (v, S2)) : ev Φ Γ (.call f es) env S = some (v, gc v S1 S2) := by rw [ev_call, h]; simp [hf, hm]
theorem r_call0 {f : Nat} {es : Exs} {as : List A} {m : Fs} {v : A} (h : evs Φ Γ es env S = some (as, S1)) (hf : Φ[f]? = some m) (hm : m as S1 = some (v, S1)) : ev Φ Γ (.call f es) env S = some (v, S1) := by rw [r_call h hf hm, gc_same]
theorem r_comp {tg : Tg} {it : Itx} {ifs : Exs} {xs ys : List PyData} (h : evI Φ Γ it env S = some (xs, none, S1)) (h2 : compL (cF Φ Γ (itA it) tg ifs e (wipeE env tg.slots)) xs S1 = some (ys, S2)) : ev Φ Γ (.comp tg it ifs e) env S = some (.d (.list ys), S2) := by rw [ev_comp, h]; simp only [watC_none]; simp [h2, unlF]
theorem r_blt {bl : Bl} {x y : PyData} (h : ev Φ Γ e env S = some (.d x, S1)) (h2 : bltD bl x = some y) : ev Φ Γ (.blt bl (.cons e .nil)) env S = some (.d y, S1) := by
  rw [ev_blt, evs, h]
  simp [evs, bltF_d, h2]
/-- a comprehension's turn -/
theorem r_cf {ia : PyData → A} {tg : Tg} {env0 : En} {x z : PyData} (hb : bnd Φ Γ tg (ia x) env0 S = some (e1, S)) (h : ev Φ Γ e e1 S = some (.d z, S)) : cF Φ Γ ia tg .nil e env0 x S = some (some z, S) := by
  unfold cF
  simp [hb, evTs, h, frz_d]
theorem r_cfi {ia : PyData → A} {tg : Tg} {env0 : En} {x z : PyData} {k : Bool} {v : A} (hb : bnd Φ Γ tg (ia x) env0 S = some (e1, S)) (ht : ev Φ Γ t e1 S = some (v, S)) (hk : tru S v = some k) (h : k = true → ev Φ Γ e e1 S = some (.d z, S)) : cF Φ Γ ia tg (.cons t .nil) e env0 x S = some ((if k = true then some z else none), S) := by
  unfold cF
  cases k with
  | false => simp [hb, evTs, ht, hk]
  | true => simp [hb, evTs, ht, hk, h rfl, frz_d]
end
end PV

/-! PV20: draws, what is the same. -/
namespace PV
open PySem PySem.Spec PyProof.Rows L2
def bNext : Ss := .cons (.ifs (.cmp .Gt (.ix (.var 0) (.cst (.int 2))) (.cst (.int 0))) (.cons (.asg (.nm 2) (.bin .Mod (.blt .int (.cons (.ix (.var 0) (.cst (.int 2))) .nil)) (.var 1))) (.cons (.asg (.sub (.var 0) (.cst (.int 2))) (.bin .FloorDiv (.ix (.var 0) (.cst (.int 2))) (.var 1))) (.cons (.ret (.var 2)) .nil))) .nil) (.cons (.ifs (.cmp .Lt (.ix (.var 0) (.cst (.int 1))) (.blt .len (.cons (.ix (.var 0) (.cst (.int 0))) .nil))) (.cons (.asg (.nm 3) (.blt .abs (.cons (.ix (.ix (.var 0) (.cst (.int 0))) (.ix (.var 0) (.cst (.int 1)))) .nil))) (.cons (.asg (.sub (.var 0) (.cst (.int 1))) (.bin .Add (.ix (.var 0) (.cst (.int 1))) (.cst (.int 1)))) (.cons (.ifs (.cmp .GtE (.var 3) (.bin .Pow (.cst (.int 10)) (.cst (.int 18)))) (.cons (.asg (.sub (.var 0) (.cst (.int 2))) (.bin .FloorDiv (.var 3) (.var 1))) (.cons (.ret (.bin .Mod (.blt .int (.cons (.var 3) .nil)) (.var 1))) .nil)) .nil) (.cons (.asg (.sub (.var 0) (.cst (.int 3))) (.bin .Mod (.blt .int (.cons (.bin .Add (.bin .Add (.bin .Mult (.ix (.var 0) (.cst (.int 3))) (.cst (.int 48271))) (.var 3)) (.cst (.int 11))) .nil)) (.cst (.int 2147483647)))) .nil)))) (.cons (.asg (.sub (.var 0) (.cst (.int 3))) (.bin .Mod (.blt .int (.cons (.bin .Add (.bin .Mult (.ix (.var 0) (.cst (.int 3))) (.cst (.int 48271))) (.cst (.int 12345))) .nil)) (.cst (.int 2147483647)))) .nil)) (.cons (.ret (.bin .Mod (.bin .FloorDiv (.blt .int (.cons (.bin .Mod (.bin .Mult (.ix (.var 0) (.cst (.int 3))) (.cst (.int 69621))) (.cst (.int 2147483629))) .nil)) (.cst (.int 7))) (.var 1))) .nil))
/-- the draw's object -/
def drO (ns : List Int) (p : Nat) (c a : Int) : Ob := .lst [.list (ns.map .int), .int p, .int c, .int a] false
def isDr (ns : List Int) (o : Ob) : Prop := ∃ p c a, o = drO ns p c a

section
variable (Φ : List Fs) (Γ : List PyData)
theorem next_ok {ns : List Int} {S : Sto} {k : Nat} {many : Int} {o : Ob} (hn : ns.length ≤ 63) (hk : S[k]? = some o) (ho : isDr ns o) (h0 : 0 < many) (h1 : many < 1073741824) : ∃ r o', 0 ≤ r ∧ r < many ∧ isDr ns o' ∧ run Φ Γ 4 bNext [.obj k, .d (.int many)] S = some (.d (.int r), S.set k o') := by
  obtain ⟨p, c, a, rfl⟩ := ho
  have hkl : k < S.length := by
    rcases Nat.lt_or_ge k S.length with h | h
    · exact h
    · rw [List.getElem?_eq_none h] at hk
      cases hk
  have ne : many ≠ 0 := by omega
  have na : many.natAbs < 1073741824 := by omega
  have m0 := fun x => Int.fmod_nonneg_of_pos x h0
  have m1 := fun x => Int.fmod_lt_of_pos x h0
  have gk : ∀ o : Ob, (S.set k o)[k]? = some o := fun o => by rw [List.getElem?_set_self hkl]
  have mulA : ∀ x : Int, mulOk x 48271 = true := fun x => by unfold mulOk; simp
  have mulB : ∀ x : Int, mulOk x 69621 = true := fun x => by unfold mulOk; simp
  have hpow : binD .Pow (.int 10) (.int 18) = some (.int 1000000000000000000) := by simp [binD, binI]
  by_cases hc : 0 < c
  · refine ⟨c.fmod many, drO ns p (c.fdiv many) a, m0 c, m1 c, ⟨_, _, _, rfl⟩, ?_⟩
    simp [run, bNext, exs, ex, ev, evs, evT, bnd, tru, truD, deref, hk, drO, ixF, ixD, atI_2, cmpF, cmpD, hc, bltF, bltD, binF, binD, binI, ne, na, setF, frz, ixN_2]
  · by_cases hp : p < ns.length
    · have hat : atI (ns.map PyData.int) (p : Int) = some (.int ns[p]) := by
        rw [atI_nat _ p (by simpa using hp)]
        simp
      generalize hcell : (if ns[p] < 0 then -ns[p] else ns[p]) = cell
      by_cases hb : (1000000000000000000 : Int) ≤ cell
      · refine ⟨_, drO ns (p + 1) (cell.fdiv many) a, m0 cell, m1 _, ⟨_, _, _, rfl⟩, ?_⟩
        simp [run, bNext, exs, ex, ev, evs, evT, bnd, tru, truD, deref, hk, drO, ixF, ixD, atI_0, atI_1, atI_2, atI_3, cmpF_gt, cmpF_lt, cmpF_ge, ltD_int, hc, hp, hat, hcell, hb, bltF, bltD, lenD, binF_d, hpow, binD, binI, ne, na, setF, frz, ixN_1, ixN_2, ixN_3, gk, List.set_set]
      · refine ⟨_, drO ns (p + 1) c ((a * 48271 + cell + 11).fmod 2147483647), m0 (((((a * 48271 + cell + 11).fmod 2147483647) * 69621).fmod 2147483629).fdiv 7), m1 _, ⟨_, _, _, rfl⟩, ?_⟩
        simp [run, bNext, exs, ex, ev, evs, evT, bnd, tru, truD, deref, hk, drO, ixF, ixD, atI_0, atI_1, atI_2, atI_3, cmpF_gt, cmpF_lt, cmpF_ge, ltD_int, hc, hp, hat, hcell, hb, bltF, bltD, lenD, binF_d, hpow, binD, binI, ne, na, setF, frz, ixN_1, ixN_2, ixN_3, gk, List.set_set, mulA, mulB]
    · refine ⟨_, drO ns p c ((a * 48271 + 12345).fmod 2147483647), m0 (((((a * 48271 + 12345).fmod 2147483647) * 69621).fmod 2147483629).fdiv 7), m1 _, ⟨_, _, _, rfl⟩, ?_⟩
      simp [run, bNext, exs, ex, ev, evs, evT, bnd, tru, truD, deref, hk, drO, ixF, ixD, atI_0, atI_1, atI_2, atI_3, cmpF_gt, cmpF_lt, cmpF_ge, ltD_int, hc, hp, bltF, bltD, lenD, binF_d, hpow, binD, binI, ne, na, setF, frz, ixN_1, ixN_2, ixN_3, gk, List.set_set, mulA, mulB]
def bDraw : Ss := .cons (.retO (.fresh (.lst (.cons (.blt .list (.cons (.var 0) .nil)) (.cons (.cst (.int 0)) (.cons (.cst (.int 0)) (.cons (.cst (.int 17)) .nil))))))) .nil
theorem draw_ok {ns : List Int} {S : Sto} : ∃ o, isDr ns o ∧ run Φ Γ 1 bDraw [.seq ns] S = some (.obj S.length, S ++ [o]) := by
  refine ⟨drO ns 0 0 17, ⟨_, _, _, rfl⟩, ?_⟩
  simp [run, bDraw, exs, ex, ev, evs, bltF, frzAll, frz, newOb, drO]
def bSame (i : Nat) : Ss := .cons (.ifs (.isi (.var 1) [.list, .tuple]) (.cons (.ifs (.or (.cons (.cmp .NotEq (.isi (.var 1) [.list]) (.isi (.var 0) [.list])) (.cons (.cmp .NotEq (.isi (.var 1) [.tuple]) (.isi (.var 0) [.tuple])) .nil))) (.cons (.ret (.cst (.bool false))) .nil) .nil) (.cons (.ifs (.cmp .NotEq (.blt .len (.cons (.var 0) .nil)) (.blt .len (.cons (.var 1) .nil))) (.cons (.ret (.cst (.bool false))) .nil) .nil) (.cons (.ret (.blt .all (.cons (.comp (.nm 2) (.rng (.blt .len (.cons (.var 1) .nil))) .nil (.call i (.cons (.ix (.var 0) (.var 2)) (.cons (.ix (.var 1) (.var 2)) .nil)))) .nil))) .nil))) .nil) (.cons (.ifs (.cmp .Is (.var 1) (.cst .none)) (.cons (.ret (.cmp .Is (.var 0) (.cst .none))) .nil) .nil) (.cons (.ifs (.cmp .NotEq (.isi (.var 1) [.bool]) (.isi (.var 0) [.bool])) (.cons (.ret (.cst (.bool false))) .nil) .nil) (.cons (.ifs (.isi (.var 1) [.str]) (.cons (.ret (.and (.cons (.isi (.var 0) [.str]) (.cons (.cmp .Eq (.var 0) (.var 1)) .nil)))) .nil) .nil) (.cons (.ret (.and (.cons (.isi (.var 0) [.int]) (.cons (.cmp .Eq (.var 0) (.var 1)) .nil)))) .nil))))

/-- what can be held against itself -/
def fitL (f : PyData → Bool) : List PyData → Bool
  | [] => true
  | x :: xs => f x && fitL f xs
def fitS : Nat → PyData → Bool
  | 0, _ => false
  | n + 1, .list xs => decide (xs.length ≤ 16777216) && fitL (fitS n) xs
  | n + 1, .tuple xs => decide (xs.length ≤ 16777216) && fitL (fitS n) xs
  | _ + 1, .dict _ => false
  | _ + 1, _ => true
theorem fitSs_get {n : Nat} : ∀ {xs : List PyData} {i : Nat} (h : i < xs.length), fitL (fitS n) xs = true → fitS n xs[i] = true
  | x :: xs, 0, h, e => by
    simp only [fitL, Bool.and_eq_true] at e
    exact e.1
  | x :: xs, i + 1, h, e => by
    simp only [fitL, Bool.and_eq_true] at e
    exact fitSs_get (xs := xs) (by simpa using h) e.2
theorem fitL_of {f : PyData → Bool} : ∀ {xs : List PyData}, (∀ x ∈ xs, f x = true) → fitL f xs = true
  | [], _ => rfl
  | x :: xs, h => by
    simp only [fitL, Bool.and_eq_true]
    exact ⟨h x (by simp), fitL_of fun y hy => h y (by simp [hy])⟩
theorem same_list {i : Nat} (Φ : List Fs) (S : Sto) (xs : List PyData) (hx : xs.length ≤ 16777216) (h : ∀ (j : Nat) (hj : j < xs.length), ∃ m, Φ[i]? = some m ∧ m [.d xs[j], .d xs[j]] S = some (.d (.bool true), S)) : run Φ Γ 3 (bSame i) [.d (.list xs), .d (.list xs)] S = some (.d (.bool true), S) := by
  have h1 : ev Φ Γ (.isi (.var 1) [.list, .tuple]) [some (.d (.list xs)), some (.d (.list xs)), none] S = some (.d (.bool true), S) := by simp [ev_isi, ev_var, deref_d, typeOk, ty_ll, ty_lt, ty_tl]
  have h2 : ev Φ Γ (.or (.cons (.cmp .NotEq (.isi (.var 1) [.list]) (.isi (.var 0) [.list])) (.cons (.cmp .NotEq (.isi (.var 1) [.tuple]) (.isi (.var 0) [.tuple])) .nil))) [some (.d (.list xs)), some (.d (.list xs)), none] S = some (.d (.bool false), S) := by
    simp [ev_isi, ev_or, evOr, ev_cmp, ev_var, deref_d, typeOk, ty_ll, ty_lt, ty_tl, cmpF_ne, eqvD_bool, Exs.isNil, tru_bool]
  have h3 : ev Φ Γ (.cmp .NotEq (.blt .len (.cons (.var 0) .nil)) (.blt .len (.cons (.var 1) .nil))) [some (.d (.list xs)), some (.d (.list xs)), none] S = some (.d (.bool false), S) := by
    simp [ev_cmp, ev_blt, evs, ev_var, bltF_d, bltD, len_list, cmpF_ne, eqvD_int]
  have h4 : evI Φ Γ (.rng (.blt .len (.cons (.var 1) .nil))) [some (.d (.list xs)), some (.d (.list xs)), none] S = some ((List.range xs.length).map fun k => PyData.int (k : Nat), none, S) := by
    have hr := rng_nat _ hx
    simp [evI, ev_blt, evs, ev_var, bltF_d, bltD, len_list, hr]
  have h5 := compL_all (cF Φ Γ A.d (.nm 2) .nil (.call i (.cons (.ix (.var 0) (.var 2)) (.cons (.ix (.var 1) (.var 2)) .nil))) [some (.d (.list xs)), some (.d (.list xs)), none]) S (.bool true) ((List.range xs.length).map fun k => PyData.int (k : Nat)) fun x hx' => by
    obtain ⟨j, hj, rfl⟩ := List.mem_map.mp hx'
    have hj := List.mem_range.mp hj
    have hat : atI xs (j : Int) = some xs[j] := atI_nat xs j hj
    obtain ⟨m, h1, h2⟩ := h j hj
    refine r_cf (e1 := [some (.d (.list xs)), some (.d (.list xs)), some (.d (.int (j : Nat)))]) rfl (r_call0 (as := [.d xs[j], .d xs[j]]) ?_ h1 h2)
    simp [evs, ev_ix, ev_var, ixF_d, ixD, hat]
  rw [List.length_map, List.length_range] at h5
  exact r_run (r_rt (r_ifT h1 (r_nx (r_ifF h2 r_nil) (r_nx (r_ifF h3 r_nil) (r_rt (r_ret (x := .bool true) (r_blt (r_comp h4 h5) (by simp [bltD, boolsD_rep]))))))))
theorem same_tuple {i : Nat} (Φ : List Fs) (S : Sto) (xs : List PyData) (hx : xs.length ≤ 16777216) (h : ∀ (j : Nat) (hj : j < xs.length), ∃ m, Φ[i]? = some m ∧ m [.d xs[j], .d xs[j]] S = some (.d (.bool true), S)) : run Φ Γ 3 (bSame i) [.d (.tuple xs), .d (.tuple xs)] S = some (.d (.bool true), S) := by
  have h1 : ev Φ Γ (.isi (.var 1) [.list, .tuple]) [some (.d (.tuple xs)), some (.d (.tuple xs)), none] S = some (.d (.bool true), S) := by simp [ev_isi, ev_var, deref_d, typeOk, ty_tl, ty_tt, ty_lt, ty_ll]
  have h2 : ev Φ Γ (.or (.cons (.cmp .NotEq (.isi (.var 1) [.list]) (.isi (.var 0) [.list])) (.cons (.cmp .NotEq (.isi (.var 1) [.tuple]) (.isi (.var 0) [.tuple])) .nil))) [some (.d (.tuple xs)), some (.d (.tuple xs)), none] S = some (.d (.bool false), S) := by
    simp [ev_isi, ev_or, evOr, ev_cmp, ev_var, deref_d, typeOk, ty_tl, ty_tt, ty_lt, ty_ll, cmpF_ne, eqvD_bool, Exs.isNil, tru_bool]
  have h3 : ev Φ Γ (.cmp .NotEq (.blt .len (.cons (.var 0) .nil)) (.blt .len (.cons (.var 1) .nil))) [some (.d (.tuple xs)), some (.d (.tuple xs)), none] S = some (.d (.bool false), S) := by
    simp [ev_cmp, ev_blt, evs, ev_var, bltF_d, bltD, len_tuple, cmpF_ne, eqvD_int]
  have h4 : evI Φ Γ (.rng (.blt .len (.cons (.var 1) .nil))) [some (.d (.tuple xs)), some (.d (.tuple xs)), none] S = some ((List.range xs.length).map fun k => PyData.int (k : Nat), none, S) := by
    have hr := rng_nat _ hx
    simp [evI, ev_blt, evs, ev_var, bltF_d, bltD, len_tuple, hr]
  have h5 := compL_all (cF Φ Γ A.d (.nm 2) .nil (.call i (.cons (.ix (.var 0) (.var 2)) (.cons (.ix (.var 1) (.var 2)) .nil))) [some (.d (.tuple xs)), some (.d (.tuple xs)), none]) S (.bool true) ((List.range xs.length).map fun k => PyData.int (k : Nat)) fun x hx' => by
    obtain ⟨j, hj, rfl⟩ := List.mem_map.mp hx'
    have hj := List.mem_range.mp hj
    have hat : atI xs (j : Int) = some xs[j] := atI_nat xs j hj
    obtain ⟨m, h1, h2⟩ := h j hj
    refine r_cf (e1 := [some (.d (.tuple xs)), some (.d (.tuple xs)), some (.d (.int (j : Nat)))]) rfl (r_call0 (as := [.d xs[j], .d xs[j]]) ?_ h1 h2)
    simp [evs, ev_ix, ev_var, ixF_d, ixD, hat]
  rw [List.length_map, List.length_range] at h5
  exact r_run (r_rt (r_ifT h1 (r_nx (r_ifF h2 r_nil) (r_nx (r_ifF h3 r_nil) (r_rt (r_ret (x := .bool true) (r_blt (r_comp h4 h5) (by simp [bltD, boolsD_rep]))))))))
theorem same_atom {i : Nat} (Φ : List Fs) (S : Sto) (x : PyData) (h : atomD x = true) : run Φ Γ 3 (bSame i) [.d x, .d x] S = some (.d (.bool true), S) := by
  cases x with
  | none => simp [run, bSame, exs, ex, evT, ev_isi, ev_var, ev_cst, ev_and, ev_or, ev_cmp, ev_blt, ev_comp, evs, evI, cmpF_is, isD, cmpF_ne, cmpF_eq, eqvD_bool, eqvD_int, eqvD_str, evAnd, evOr, deref_d, tru_bool, typeOk, ty_ll, ty_lt, ty_ls, ty_li, ty_lb, ty_tl, ty_tt, ty_ts, ty_ti, ty_tb, ty_sl, ty_st, ty_ss, ty_si, ty_sb, ty_il, ty_it, ty_is, ty_ii, ty_ib, ty_bl, ty_bt, ty_bs, ty_bi, ty_bb, frz_d, Exs.isNil, bltF_d, bltD, len_list, len_tuple, Tg.slots, wipeE]
  | bool b => simp [run, bSame, exs, ex, evT, ev_isi, ev_var, ev_cst, ev_and, ev_or, ev_cmp, ev_blt, ev_comp, evs, evI, cmpF_is, isD, cmpF_ne, cmpF_eq, eqvD_bool, eqvD_int, eqvD_str, evAnd, evOr, deref_d, tru_bool, typeOk, ty_ll, ty_lt, ty_ls, ty_li, ty_lb, ty_tl, ty_tt, ty_ts, ty_ti, ty_tb, ty_sl, ty_st, ty_ss, ty_si, ty_sb, ty_il, ty_it, ty_is, ty_ii, ty_ib, ty_bl, ty_bt, ty_bs, ty_bi, ty_bb, frz_d, Exs.isNil, bltF_d, bltD, len_list, len_tuple, Tg.slots, wipeE]
  | int b => simp [run, bSame, exs, ex, evT, ev_isi, ev_var, ev_cst, ev_and, ev_or, ev_cmp, ev_blt, ev_comp, evs, evI, cmpF_is, isD, cmpF_ne, cmpF_eq, eqvD_bool, eqvD_int, eqvD_str, evAnd, evOr, deref_d, tru_bool, typeOk, ty_ll, ty_lt, ty_ls, ty_li, ty_lb, ty_tl, ty_tt, ty_ts, ty_ti, ty_tb, ty_sl, ty_st, ty_ss, ty_si, ty_sb, ty_il, ty_it, ty_is, ty_ii, ty_ib, ty_bl, ty_bt, ty_bs, ty_bi, ty_bb, frz_d, Exs.isNil, bltF_d, bltD, len_list, len_tuple, Tg.slots, wipeE]
  | str b => simp [run, bSame, exs, ex, evT, ev_isi, ev_var, ev_cst, ev_and, ev_or, ev_cmp, ev_blt, ev_comp, evs, evI, cmpF_is, isD, cmpF_ne, cmpF_eq, eqvD_bool, eqvD_int, eqvD_str, evAnd, evOr, deref_d, tru_bool, typeOk, ty_ll, ty_lt, ty_ls, ty_li, ty_lb, ty_tl, ty_tt, ty_ts, ty_ti, ty_tb, ty_sl, ty_st, ty_ss, ty_si, ty_sb, ty_il, ty_it, ty_is, ty_ii, ty_ib, ty_bl, ty_bt, ty_bs, ty_bi, ty_bb, frz_d, Exs.isNil, bltF_d, bltD, len_list, len_tuple, Tg.slots, wipeE]
  | dict b => simp [atomD] at h
  | list b => simp [atomD] at h
  | tuple b => simp [atomD] at h
/-- a thing is the same as itself -/
theorem same_ok {i : Nat} (F : Nat → List Fs) (hF : ∀ k, (F (k + 1))[i]? = some (run (F k) Γ 3 (bSame i))) (n : Nat) : ∀ (x : PyData) (k : Nat) (S : Sto), fitS n x = true → n ≤ k + 1 → run (F k) Γ 3 (bSame i) [.d x, .d x] S = some (.d (.bool true), S) := by
  induction n with
  | zero =>
    intro x k S h hk
    simp [fitS] at h
  | succ n ih =>
    intro x k S h hk
    have go : ∀ xs : List PyData, fitL (fitS n) xs = true → ∀ (j : Nat) (hj : j < xs.length), ∃ m, (F k)[i]? = some m ∧ m [.d xs[j], .d xs[j]] S = some (.d (.bool true), S) := fun xs hf j hj => by
      have hz := fitSs_get hj hf
      cases k with
      | zero =>
        have : n = 0 := by omega
        subst this
        simp [fitS] at hz
      | succ k => exact ⟨_, hF k, ih xs[j] k S hz (by omega)⟩
    cases x with
    | none => exact same_atom Γ (F k) S _ rfl
    | bool b => exact same_atom Γ (F k) S _ rfl
    | int b => exact same_atom Γ (F k) S _ rfl
    | str b => exact same_atom Γ (F k) S _ rfl
    | dict b => simp [fitS] at h
    | list xs =>
      simp only [fitS, Bool.and_eq_true, decide_eq_true_eq] at h
      exact same_list Γ (F k) S xs h.1 (go xs h.2)
    | tuple xs =>
      simp only [fitS, Bool.and_eq_true, decide_eq_true_eq] at h
      exact same_tuple Γ (F k) S xs h.1 (go xs h.2)
end
end PV

/-! PV21: loops and comprehensions over encoded lists. -/
namespace PV
open PySem PySem.Spec PyProof.Rows L2
section
variable {Φ : List Fs} {Γ : List PyData} {env : En} {S : Sto} {t e : Ex} {tg : Tg} {it : Itx} {α : Type}
theorem q_map (enc : α → PyData) (g : α → PyData) (L : List α) (hx : evI Φ Γ it env S = some (L.map enc, none, S)) (h : ∀ x ∈ L, cF Φ Γ (itA it) tg .nil e (wipeE env tg.slots) (enc x) S = some (some (g x), S)) : ev Φ Γ (.comp tg it .nil e) env S = some (.d (.list (L.map g)), S) := by
  refine r_comp hx ?_
  rw [compL_map enc _ (fun x => some (g x)) S L h]
  simp
theorem q_filt (enc : α → PyData) (g : α → PyData) (p : α → Bool) (L : List α) (hx : evI Φ Γ it env S = some (L.map enc, none, S)) (h : ∀ x ∈ L, cF Φ Γ (itA it) tg (.cons t .nil) e (wipeE env tg.slots) (enc x) S = some ((if p x = true then some (g x) else none), S)) : ev Φ Γ (.comp tg it (.cons t .nil) e) env S = some (.d (.list ((L.filter p).map g)), S) := by
  refine r_comp hx ?_
  rw [compL_map enc _ (fun x => if p x = true then some (g x) else none) S L h]
  congr 2
  clear h hx
  induction L with
  | nil => rfl
  | cons x L ih =>
    rw [List.filterMap_cons, List.filter_cons]
    by_cases hp : p x = true
    · simp [hp, ih]
    · simp [hp, ih]
end
section
variable {α σ : Type}
theorem forL_inv (enc : α → PyData) (f : PyData → En → Sto → Option (Fl × En × Sto)) (E : σ → En) (S : Sto) (step : σ → α → σ) (I : List α → σ → Prop) (hs : ∀ x xs st, I (x :: xs) st → f (enc x) (E st) S = some (.nx, E (step st x), S) ∧ I xs (step st x)) : ∀ (xs : List α) (st : σ), I xs st → forL f (xs.map enc) (E st) S = some (.nx, E (xs.foldl step st), S)
  | [], st, _ => rfl
  | x :: xs, st, h => by
    obtain ⟨h1, h2⟩ := hs x xs st h
    rw [List.map_cons, forL, h1]
    exact forL_inv enc f E S step I hs xs (step st x) h2
theorem forL_find (enc : α → PyData) (f : PyData → En → Sto → Option (Fl × En × Sto)) (env : En) (S : Sto) (p : α → Option A) : ∀ (xs : List α), (∀ x ∈ xs, match p x with
    | none => f (enc x) env S = some (.nx, env, S)
    | some a => ∃ env', f (enc x) env S = some (.rt a, env', S)) → match xs.findSome? p with
    | none => forL f (xs.map enc) env S = some (.nx, env, S)
    | some a => ∃ env', forL f (xs.map enc) env S = some (.rt a, env', S)
  | [], _ => rfl
  | x :: xs, h => by
    have h1 := h x (by simp)
    rw [List.findSome?_cons]
    cases e : p x with
    | none =>
      rw [e] at h1
      have ih := forL_find enc f env S p xs fun y hy => h y (by simp [hy])
      simp only at h1 ⊢
      rw [List.map_cons, forL, h1]
      exact ih
    | some a =>
      rw [e] at h1
      obtain ⟨env', h1⟩ := h1
      exact ⟨env', by rw [List.map_cons, forL, h1]⟩
end
/-! ints, tuples of ints -/
def encL (l : List Int) : PyData := .tuple (l.map .int)
theorem any_int (l : List Int) (i : Int) : ((l.map PyData.int).any fun z => PyData.eqv z (.int i)) = decide (i ∈ l) := by
  rw [Bool.eq_iff_iff]
  simp only [List.any_eq_true, List.mem_map, decide_eq_true_eq]
  constructor
  · rintro ⟨z, ⟨j, hj, rfl⟩, he⟩
    have : j = i := by simpa [PyData.eqv] using he
    exact this ▸ hj
  · intro h
    exact ⟨_, ⟨i, h, rfl⟩, by simp [PyData.eqv]⟩
@[simp] theorem inD_ints (l : List Int) (i : Int) : inD (.int i) (encL l) = some (decide (i ∈ l)) := by
  unfold encL inD
  have h : okIn (.int i) (l.map .int) = true := by
    unfold okIn
    simp [atomD]
  simp only [h, if_true]
  rw [any_int]
theorem boolsD_map {α : Type} (f : α → Bool) : ∀ l : List α, boolsD (l.map fun x => .bool (f x)) = some (l.map f)
  | [] => rfl
  | x :: l => by rw [List.map_cons, boolsD, boolsD_map f l]; rfl
@[simp] theorem any_ok {α : Type} (f : α → Bool) (l : List α) : bltD .any (.list (l.map fun x => .bool (f x))) = some (.bool (l.any f)) := by
  simp [bltD, boolsD_map]
@[simp] theorem all_ok {α : Type} (f : α → Bool) (l : List α) : bltD .all (.list (l.map fun x => .bool (f x))) = some (.bool (l.all f)) := by
  simp [bltD, boolsD_map]
@[simp] theorem bin_add (i j : Int) : binD .Add (.int i) (.int j) = some (.int (i + j)) := rfl
@[simp] theorem bin_sub (i j : Int) : binD .Sub (.int i) (.int j) = some (.int (i - j)) := rfl
theorem bin_app (xs ys : List PyData) (h : xs.length + ys.length ≤ 16777216) : binD .Add (.list xs) (.list ys) = some (.list (xs ++ ys)) := by simp [binD, h]
theorem bin_tup (xs ys : List PyData) (h : xs.length + ys.length ≤ 16777216) : binD .Add (.tuple xs) (.tuple ys) = some (.tuple (xs ++ ys)) := by simp [binD, h]
end PV

/-! PV22: all sets of a list of ints, by length, then by order. -/
namespace PV
open PySem PySem.Spec PyProof.Rows L2
def encP (s : List Int) : PyData := .tuple [.int s.length, encL s]
def leS (a b : List Int) : Bool := !ltB (encP b) (encP a)
def bld (xs : List Int) : List (List Int) := xs.foldl (fun f x => f ++ f.map fun s => s ++ [x]) [[]]
def setsL (xs : List Int) : List (List Int) := (bld xs).mergeSort leS
theorem alike_P (a b : List Int) : PySem.W.alike (encP a) (encP b) = true := by
  unfold encP encL
  simp only [PySem.W.alike, PySem.W.alikeAll, PySem.W.alike_ints, Bool.and_true]
theorem alikeRow_P : ∀ L : List (List Int), alikeRow (L.map encP) = true
  | [] => rfl
  | x :: L => by
    rw [List.map_cons, alikeRow, alikeRow_P L, alike_P]
    simp [alike_P]
theorem noDics_int : ∀ l : List Int, noDics (l.map .int) = true
  | [] => rfl
  | x :: l => by rw [List.map_cons, noDics, noDics_int l]; rfl
theorem noDics_P : ∀ L : List (List Int), noDics (L.map encP) = true
  | [] => rfl
  | x :: L => by
    rw [List.map_cons, noDics, noDics_P L]
    simp [encP, encL, noDic, noDics, noDics_int]
theorem depth_P (a : List Int) : (encP a).depth = 2 := by
  unfold encP encL
  simp [PyData.depth, PyData.depthAll, PySem.W.depth_ints]
theorem sort_P (L : List (List Int)) : sortD (L.map encP) = some ((L.mergeSort leS).map encP) := by
  unfold sortD
  have h3 : ((L.map encP).all isTupD || (L.map encP).all noTupD) = true := by
    simp [encP, isTupD]
  have h4 : ((L.map encP).all fun x => decide (x.depth ≤ 32)) = true := by
    simp [depth_P]
  rw [if_pos ⟨alikeRow_P L, noDics_P L, h3, h4⟩]
  congr 1
  rw [List.map_mergeSort]
  intro a _ b _
  rfl
theorem bld_len_aux : ∀ (xs : List Int) (st : List (List Int)), (xs.foldl (fun f x => f ++ f.map fun s => s ++ [x]) st).length = st.length * 2 ^ xs.length
  | [], st => by simp
  | x :: xs, st => by
    rw [List.foldl_cons, bld_len_aux xs]
    rw [List.length_append, List.length_map, List.length_cons, Nat.pow_succ]
    have : st.length + st.length = 2 * st.length := by omega
    rw [this, Nat.mul_comm (2 ^ xs.length) 2, ← Nat.mul_assoc, Nat.mul_comm st.length 2]
/-- order -/
theorem ltBs_ints : ∀ a b : List Int, ltBs (a.map .int) (b.map .int) = decide (a < b)
  | [], [] => by simp [ltBs]
  | [], y :: b => by simp [ltBs]
  | x :: a, [] => by simp [ltBs]
  | x :: a, y :: b => by
    rw [List.map_cons, List.map_cons, ltBs, ltBs_ints a b]
    by_cases h : x = y
    · subst h
      simp [PyData.eqv, List.cons_lt_cons_iff]
    · have : PyData.eqv (.int x) (.int y) = false := by simp [PyData.eqv, h]
      rw [this]
      simp [ltB, List.cons_lt_cons_iff, h]
theorem eqv_int (i j : Int) : PyData.eqv (.int i) (.int j) = decide (i = j) := by
  rw [Bool.eq_iff_iff]
  simp [PyData.eqv]
theorem eqv_ints : ∀ a b : List Int, PyData.eqvAll (a.map .int) (b.map .int) = decide (a = b)
  | [], [] => by simp [PyData.eqvAll]
  | [], y :: b => by simp [PyData.eqvAll]
  | x :: a, [] => by simp [PyData.eqvAll]
  | x :: a, y :: b => by
    rw [List.map_cons, List.map_cons, PyData.eqvAll, eqv_ints a b, eqv_int, Bool.eq_iff_iff]
    simp
theorem ltB_P (a b : List Int) : ltB (encP a) (encP b) = decide (a.length < b.length ∨ (a.length = b.length ∧ a < b)) := by
  unfold encP encL
  simp only [ltB, ltBs, eqv_int]
  by_cases h : a.length = b.length
  · have h' : ((a.length : Int) = (b.length : Int)) := by omega
    simp only [h', decide_true, if_true, h, Nat.lt_irrefl, false_or, true_and]
    have e : PyData.eqv (.tuple (a.map .int)) (.tuple (b.map .int)) = decide (a = b) := by rw [PyData.eqv, eqv_ints]
    rw [e]
    by_cases hab : a = b
    · subst hab
      simp [List.lt_irrefl]
    · simp [hab, ltBs_ints]
  · have h' : ¬ ((a.length : Int) = (b.length : Int)) := by omega
    simp [h', h]
theorem leS_iff (a b : List Int) : leS a b = true ↔ a.length < b.length ∨ (a.length = b.length ∧ ¬ b < a) := by
  unfold leS
  rw [ltB_P]
  simp only [Bool.not_eq_true', decide_eq_false_iff_not, not_or, not_and]
  constructor
  · rintro ⟨h1, h2⟩
    by_cases h : a.length = b.length
    · exact .inr ⟨h, h2 h.symm⟩
    · exact .inl (by omega)
  · rintro (h | ⟨h, h2⟩)
    · exact ⟨by omega, fun e => by omega⟩
    · exact ⟨by omega, fun _ => h2⟩
theorem leS_trans (a b c : List Int) (h1 : leS a b = true) (h2 : leS b c = true) : leS a c = true := by
  rw [leS_iff] at h1 h2 ⊢
  rcases h1 with h1 | ⟨e1, h1⟩
  · rcases h2 with h2 | ⟨e2, h2⟩
    · exact .inl (by omega)
    · exact .inl (by omega)
  · rcases h2 with h2 | ⟨e2, h2⟩
    · exact .inl (by omega)
    · exact .inr ⟨by omega, List.le_trans h1 h2⟩
theorem leS_total (a b : List Int) : (leS a b || leS b a) = true := by
  rw [Bool.or_eq_true, leS_iff, leS_iff]
  by_cases h : a.length = b.length
  · by_cases h2 : b < a
    · exact .inr (.inr ⟨h.symm, List.lt_asymm h2⟩)
    · exact .inl (.inr ⟨h, h2⟩)
  · by_cases h3 : a.length < b.length
    · exact .inl (.inl h3)
    · exact .inr (.inl (by omega))
theorem bld_head_aux : ∀ (xs : List Int) (st : List (List Int)) (a : List Int) (r : List (List Int)), st = a :: r → ∃ r', xs.foldl (fun f x => f ++ f.map fun s => s ++ [x]) st = a :: r'
  | [], st, a, r, h => ⟨r, h⟩
  | x :: xs, st, a, r, h => by
    subst h
    rw [List.foldl_cons]
    exact bld_head_aux xs _ a _ rfl
/-- the empty set comes first -/
theorem setsL_head (xs : List Int) : ∃ r, setsL xs = [] :: r := by
  obtain ⟨r, h⟩ := bld_head_aux xs [[]] [] [] rfl
  unfold setsL bld
  rw [h]
  obtain ⟨l1, l2, e1, e2, e3⟩ := List.mergeSort_cons (le := leS) leS_trans leS_total [] r
  have : l1 = [] := by
    cases l1 with
    | nil => rfl
    | cons b l1 =>
      have := e3 b (by simp)
      have h0 : leS [] b = true := by
        rw [leS_iff]
        cases b with
        | nil => exact .inr ⟨rfl, by simp⟩
        | cons y b => exact .inl (by simp)
      rw [h0] at this
      cases this
  subst this
  exact ⟨l2, by simpa using e1⟩
theorem mem_setsL {xs s : List Int} : s ∈ setsL xs ↔ s ∈ bld xs := List.mem_mergeSort
theorem bld_mono_aux : ∀ (xs : List Int) (st : List (List Int)) (s : List Int), s ∈ st → s ++ xs ∈ xs.foldl (fun f x => f ++ f.map fun s => s ++ [x]) st
  | [], st, s, h => by simpa using h
  | x :: xs, st, s, h => by
    rw [List.foldl_cons]
    have := bld_mono_aux xs (st ++ st.map fun s => s ++ [x]) (s ++ [x]) (by simp [h])
    simpa using this
/-- all of them is a set -/
theorem full_mem (xs : List Int) : xs ∈ setsL xs := by
  rw [mem_setsL]
  have := bld_mono_aux xs [[]] [] (by simp)
  simpa [bld] using this
theorem bld_sub_aux : ∀ (xs : List Int) (st : List (List Int)) (P : Int → Prop), (∀ s ∈ st, ∀ i ∈ s, P i) → (∀ i ∈ xs, P i) → ∀ s ∈ xs.foldl (fun f x => f ++ f.map fun s => s ++ [x]) st, ∀ i ∈ s, P i
  | [], st, P, h, _ => h
  | x :: xs, st, P, h, hx => by
    rw [List.foldl_cons]
    refine bld_sub_aux xs _ P (fun s hs i hi => ?_) fun i hi => hx i (by simp [hi])
    rcases List.mem_append.mp hs with hs | hs
    · exact h s hs i hi
    · obtain ⟨s', hs', rfl⟩ := List.mem_map.mp hs
      rcases List.mem_append.mp hi with hi | hi
      · exact h s' hs' i hi
      · rw [List.mem_singleton] at hi
        subst hi
        exact hx i (by simp)
/-- only of these -/
theorem mem_sub {xs s : List Int} (h : s ∈ setsL xs) : ∀ i ∈ s, i ∈ xs := by
  rw [mem_setsL] at h
  exact bld_sub_aux xs [[]] (· ∈ xs) (by simp) (fun i hi => hi) s h
theorem bld_map_aux (g : Int → Int) : ∀ (xs : List Int) (st : List (List Int)), (xs.map g).foldl (fun f x => f ++ f.map fun s => s ++ [x]) (st.map (·.map g)) = (xs.foldl (fun f x => f ++ f.map fun s => s ++ [x]) st).map (·.map g)
  | [], st => rfl
  | x :: xs, st => by
    rw [List.map_cons, List.foldl_cons, List.foldl_cons, ← bld_map_aux g xs]
    congr 1
    simp [Function.comp_def]
theorem lt_map {g : Int → Int} : ∀ {a b : List Int}, (∀ i ∈ a ++ b, ∀ j ∈ a ++ b, i < j ↔ g i < g j) → (a.map g < b.map g ↔ a < b)
  | [], [], _ => by simp
  | [], y :: b, _ => by simp
  | x :: a, [], _ => by simp
  | x :: a, y :: b, h => by
    rw [List.map_cons, List.map_cons, List.cons_lt_cons_iff, List.cons_lt_cons_iff]
    have h1 := h x (by simp) y (by simp)
    have h2 := h y (by simp) x (by simp)
    have ih := lt_map (g := g) (a := a) (b := b) fun i hi j hj => h i (by
      rcases List.mem_append.mp hi with hi | hi <;> simp [hi]) j (by
      rcases List.mem_append.mp hj with hj | hj <;> simp [hj])
    have he : x = y ↔ g x = g y := by
      constructor
      · intro e; rw [e]
      · intro e
        rcases Int.lt_trichotomy x y with z | z | z
        · have := h1.mp z; omega
        · exact z
        · have := h2.mp z; omega
    rw [ih, ← h1, ← he]
/-- names that keep their order may be changed -/
theorem setsL_map {g : Int → Int} {xs : List Int} (h : ∀ i ∈ xs, ∀ j ∈ xs, i < j ↔ g i < g j) : setsL (xs.map g) = (setsL xs).map (·.map g) := by
  unfold setsL
  rw [List.map_mergeSort (r := leS) (s := leS)]
  · congr 1
    have := bld_map_aux g xs [[]]
    unfold bld
    simpa using this
  · intro a ha b hb
    have ha' := mem_sub (mem_setsL.mpr ha)
    have hb' := mem_sub (mem_setsL.mpr hb)
    rw [Bool.eq_iff_iff, leS_iff, leS_iff, lt_map]
    · simp
    · intro i hi j hj
      refine h i ?_ j ?_
      · rcases List.mem_append.mp hi with hi | hi
        · exact hb' i hi
        · exact ha' i hi
      · rcases List.mem_append.mp hj with hj | hj
        · exact hb' j hj
        · exact ha' j hj
end PV

/-! PV23: rules for bodies that end in a return; the rows marked for simp. -/
namespace PV
open PySem PySem.Spec PyProof.Rows L2
section
variable (Φ : List Fs) (Γ : List PyData)
def Rs (b : Ss) (env : En) (S : Sto) (v : A) (S1 : Sto) : Prop := ∃ e1, exs Φ Γ b env S = some (.rt v, e1, S1)
def Rx (s : Sx) (env : En) (S : Sto) (v : A) (S1 : Sto) : Prop := ∃ e1, ex Φ Γ s env S = some (.rt v, e1, S1)
end
section
variable {Φ : List Fs} {Γ : List PyData} {env : En} {S S1 S2 : Sto} {s : Sx} {ss a b : Ss} {t e : Ex} {v : A}
theorem s_run {n : Nat} {as : List A} (h : Rs Φ Γ a (as.map some ++ List.replicate (n - as.length) none) S v S1) : run Φ Γ n a as S = some (v, S1) := by
  obtain ⟨e1, h⟩ := h
  exact r_run h
theorem s_nx (e1 : En) (h : ex Φ Γ s env S = some (.nx, e1, S1)) (h2 : Rs Φ Γ ss e1 S1 v S2) : Rs Φ Γ (.cons s ss) env S v S2 := by
  obtain ⟨e2, h2⟩ := h2
  exact ⟨e2, r_nx h h2⟩
theorem s_rt (h : Rx Φ Γ s env S v S1) : Rs Φ Γ (.cons s ss) env S v S1 := by
  obtain ⟨e2, h⟩ := h
  exact ⟨e2, r_rt h⟩
theorem s_ret {x : PyData} (h : ev Φ Γ e env S = some (.d x, S1)) : Rx Φ Γ (.ret e) env S (.d x) S1 := ⟨env, r_ret h⟩
theorem s_ifT (h : ev Φ Γ t env S = some (.d (.bool true), S1)) (h2 : Rs Φ Γ a env S1 v S2) : Rx Φ Γ (.ifs t a b) env S v S2 := by
  obtain ⟨e2, h2⟩ := h2
  exact ⟨e2, r_ifT h h2⟩
theorem s_ifF (h : ev Φ Γ t env S = some (.d (.bool false), S1)) (h2 : Rs Φ Γ b env S1 v S2) : Rx Φ Γ (.ifs t a b) env S v S2 := by
  obtain ⟨e2, h2⟩ := h2
  exact ⟨e2, r_ifF h h2⟩
/-- a test that fails and has no else -/
theorem n_ifF (h : ev Φ Γ t env S = some (.d (.bool false), S1)) : ex Φ Γ (.ifs t a .nil) env S = some (.nx, env, S1) := r_ifF h r_nil
end
section
variable (Φ : List Fs) (Γ : List PyData) (env : En) (S : Sto)
@[simp] theorem x_evs_nil : evs Φ Γ .nil env S = some ([], S) := by rw [evs]
@[simp] theorem x_evs_cons (e : Ex) (es : Exs) : evs Φ Γ (.cons e es) env S = match ev Φ Γ e env S with
    | none => none
    | some (a, S1) => match evs Φ Γ es env S1 with
      | none => none
      | some (as, S2) => some (a :: as, S2) := by
  first | (rw [evs]; done) | (rw [evs]; rfl)
@[simp] theorem x_and1 (e : Ex) : evAnd Φ Γ (.cons e .nil) env S = ev Φ Γ e env S := by
  rw [evAnd]
  cases h : ev Φ Γ e env S <;> simp [Exs.isNil]
@[simp] theorem x_and (e f : Ex) (es : Exs) : evAnd Φ Γ (.cons e (.cons f es)) env S = match ev Φ Γ e env S with
    | none => none
    | some (a, S1) => match tru S1 a with
      | none => none
      | some false => some (a, S1)
      | some true => evAnd Φ Γ (.cons f es) env S1 := by
  rw [evAnd]
  cases ev Φ Γ e env S <;> rfl
@[simp] theorem x_or1 (e : Ex) : evOr Φ Γ (.cons e .nil) env S = ev Φ Γ e env S := by
  rw [evOr]
  cases h : ev Φ Γ e env S <;> simp [Exs.isNil]
@[simp] theorem x_or (e f : Ex) (es : Exs) : evOr Φ Γ (.cons e (.cons f es)) env S = match ev Φ Γ e env S with
    | none => none
    | some (a, S1) => match tru S1 a with
      | none => none
      | some true => some (a, S1)
      | some false => evOr Φ Γ (.cons f es) env S1 := by
  rw [evOr]
  cases ev Φ Γ e env S <;> rfl
@[simp] theorem x_bnm (i : Nat) (a : A) : bnd Φ Γ (.nm i) a env S = some (env.set i (some a), S) := by rw [bnd]
@[simp] theorem x_btp (ts : Tgs) (xs : List PyData) : bnd Φ Γ (.tp ts) (.d (.tuple xs)) env S = if xs.length = ts.len then bnds Φ Γ ts (xs.map .d) env S else none := by rw [bnd]
@[simp] theorem x_bn : bnds Φ Γ .nil [] env S = some (env, S) := by rw [bnds]
@[simp] theorem x_bc (t : Tg) (ts : Tgs) (a : A) (as : List A) : bnds Φ Γ (.cons t ts) (a :: as) env S = match bnd Φ Γ t a env S with
      | none => none
      | some (env1, S1) => bnds Φ Γ ts as env1 S1 := by
  first | (rw [bnds]; done) | (rw [bnds]; rfl)
@[simp] theorem x_seq (e : Ex) : evI Φ Γ (.seq e) env S = match ev Φ Γ e env S with
    | none => none
    | some (a, S1) => match seqF a S1 with
      | some r => some (r.1, r.2, S1)
      | none => (lkF a S1).map fun r => (r.1.map (·.1), r.2.1, r.2.2) := by
  first | (rw [evI]; done) | (rw [evI]; rfl)
theorem x_itm (e : Ex) : evI Φ Γ (.itm e) env S = match ev Φ Γ e env S with
    | none => none
    | some (a, S1) => (lkF a S1).map fun r => (itmD r.1, r.2.1, r.2.2) := by
  first | (rw [evI]; done) | (rw [evI]; rfl)
@[simp] theorem x_rng (e : Ex) : evI Φ Γ (.rng e) env S = match ev Φ Γ e env S with
    | some (.d (.int j), S1) => (rngF 0 j).map fun xs => (xs, none, S1)
    | _ => none := by
  first | (rw [evI]; done) | (rw [evI]; rfl)
@[simp] theorem x_enm (e : Ex) : evI Φ Γ (.enm e) env S = match ev Φ Γ e env S with
    | some (.d (.list xs), S1) => some (enmD xs, none, S1)
    | some (.d (.tuple xs), S1) => some (enmD xs, none, S1)
    | _ => none := by
  first | (rw [evI]; done) | (rw [evI]; rfl)
end
@[simp] theorem x_tl0 : Tgs.len .nil = 0 := rfl
@[simp] theorem x_tl1 (t : Tg) (ts : Tgs) : Tgs.len (.cons t ts) = ts.len + 1 := rfl
@[simp] theorem x_sn (i : Nat) : Tg.slots (.nm i) = [i] := by rw [Tg.slots]
@[simp] theorem x_st (ts : Tgs) : Tg.slots (.tp ts) = ts.slots := by rw [Tg.slots]
@[simp] theorem x_s0 : Tgs.slots .nil = [] := by rw [Tgs.slots]
@[simp] theorem x_s1 (t : Tg) (ts : Tgs) : Tgs.slots (.cons t ts) = t.slots ++ ts.slots := by rw [Tgs.slots]
@[simp] theorem x_w0 (env : En) : wipeE env [] = env := rfl
@[simp] theorem x_w1 (env : En) (i : Nat) (l : List Nat) : wipeE env (i :: l) = (wipeE env l).set i none := rfl
@[simp] theorem x_i0 : isD (.d .none) .none = some true := rfl
@[simp] theorem x_i1 (i : Int) : isD (.d (.int i)) .none = some false := rfl
@[simp] theorem x_i2 (i : Str) : isD (.d (.str i)) .none = some false := rfl
@[simp] theorem x_i3 (i : List PyData) : isD (.d (.tuple i)) .none = some false := rfl
@[simp] theorem x_i4 (i : List PyData) : isD (.d (.list i)) .none = some false := rfl
@[simp] theorem x_i5 (i : Bool) : isD (.d (.bool i)) .none = some false := rfl
end PV

/-! PV24: constants of a module. -/
namespace PV
open PySem PySem.Spec PyProof.Rows L2
def Gk (K : PySem.W.Frag) (mg : Str → Option Value) (x : Str) (d : PyData) : Prop := ∃ u v, mg x = some u ∧ RelV v u ∧ ∀ F, Rp K F v d
section
variable {K : PySem.W.Frag} {mg : Str → Option Value} {x : Str}
theorem gk_str {z : Str} {t : Nat} (h : mg x = some (.str z t)) : Gk K mg x (.str z) := ⟨_, .str z, h, ⟨_, rfl⟩, fun _ => .str z⟩
theorem gk_int {i : Int} {t : Nat} (h : mg x = some (.int i t)) : Gk K mg x (.int i) := ⟨_, .int i, h, ⟨_, rfl⟩, fun _ => .int i⟩
theorem vals_strs : ∀ (zs : List (Str × Nat)), Vals (zs.map fun p => V.str p.1) (zs.map fun p => Value.str p.1 p.2)
  | [] => .nil
  | p :: zs => .cons ⟨_, rfl⟩ (vals_strs zs)
theorem rpA_strs (F : Hp) : ∀ (zs : List (Str × Nat)), RpA K F (zs.map fun p => V.str p.1) (zs.map fun p => PyData.str p.1)
  | [] => .nil
  | p :: zs => .cons (.str _) (rpA_strs F zs)
theorem gk_strs {a : Addr} {o : Obj} {n : Nat} (zs : List (Str × Nat)) (h : mg x = some (.ref a)) (hk : K.lookup a = some o) (hc : o.cls = .type "tuple") (hd : o.data = .seq (zs.map fun p => Value.str p.1 p.2).toArray n) (god : o.dict = none) (hz : zs.length ≤ 1000) : Gk K mg x (.tuple (zs.map fun p => PyData.str p.1)) :=
  ⟨_, .ref a, h, rfl, fun F => .tup (.inr ⟨o, _, n, hk, hc, god, hd, by simp; exact Nat.le_of_lt (small1000 hz), by simpa using vals_strs zs⟩) (rpA_strs F zs)⟩
theorem gs_of {Γ : List PyData} {gl : List Str} (hl : gl.length = Γ.length) (h : ∀ i (h1 : i < gl.length) (h2 : i < Γ.length), Gk K mg gl[i] Γ[i]) : Gs K mg Γ gl := fun i x hx => by
  obtain ⟨h1, rfl⟩ := List.getElem?_eq_some_iff.mp hx
  have h2 : i < Γ.length := by omega
  obtain ⟨u, v, e, r, p⟩ := h i h1 h2
  exact ⟨u, v, _, List.getElem?_eq_getElem h2, e, r, p⟩
end
end PV

/-! PT1: typed readings: what is known of the slots and of the store. -/
namespace PV
open PySem PySem.Spec PyProof.Rows L2
inductive Sl where
  | no | va (x : PyData) | ro (x : PyData) | fx (a : A) (x : PyData) | pv (x : PyData) | ow (o : Ob) | rf (k : Nat)
structure Ct where
  B : Sto
  c : List Sl
def obD : Ob → Option PyData
  | .lst xs _ => some (.list xs)
  | .dic kvs _ _ => some (.dict kvs)
  | _ => none
theorem deref_obj (S : Sto) (k : Nat) (x : PyData) : deref S (.obj k) = some x ↔ ∃ o, S[k]? = some o ∧ obD o = some x := by
  unfold deref
  constructor
  · intro h
    simp only at h
    split at h
    · rename_i e; exact ⟨_, e, h⟩
    · rename_i e; exact ⟨_, e, h⟩
    · cases h
  · rintro ⟨o, e, h⟩
    simp only [e]
    cases o with
    | lst _ _ => exact h
    | dic _ _ _ => exact h
    | ins _ _ => cases h
/-- a local thing that is only read -/
def Loc (n : Nat) (S : Sto) (own : Nat → Prop) (a : A) (x : PyData) : Prop := a = .d x ∨ ∃ k, a = .obj k ∧ n ≤ k ∧ deref S (.obj k) = some x ∧ ¬ own k
def SlOk (B S : Sto) (own : Nat → Prop) (r : Nat) (u : Option A) : Sl → Prop
  | .no => True
  | .va x => u = some (.d x)
  | .ro x => ∃ a, u = some a ∧ Loc B.length S own a x
  | .fx a x => u = some a ∧ Loc B.length S own a x
  | .pv x => ∃ a, u = some a ∧ deref B a = some x
  | .ow o => u = some (.obj r) ∧ B.length ≤ r ∧ S[r]? = some o
  | .rf k => u = some (.obj k) ∧ k < B.length
def ownBy (c : List Sl) (ρ : Nat → Nat) : Nat → Prop := fun k => ∃ i o, c[i]? = some (.ow o) ∧ ρ i = k
structure Rel (C : Ct) (env : En) (S : Sto) : Prop where
  len : env.length = C.c.length
  pre : ∃ X, S = C.B ++ X ∧ X.all Ob.flat = true
  ok : ∃ ρ : Nat → Nat, (∀ i j o o', C.c[i]? = some (.ow o) → C.c[j]? = some (.ow o') → ρ i = ρ j → i = j) ∧ ∀ i s, C.c[i]? = some s → SlOk C.B S (ownBy C.c ρ) (ρ i) (env[i]?.join) s
section
variable {B S : Sto} {c : List Sl} {env : En}
theorem ge_set {α : Type} (l : List α) (i j : Nat) (x y : α) (h : (l.set i x)[j]? = some y) : (j = i ∧ y = x ∧ i < l.length) ∨ (j ≠ i ∧ l[j]? = some y) := by
  by_cases e : j = i
  · subst e
    by_cases hl : j < l.length
    · rw [List.getElem?_set_self hl] at h
      cases h
      exact .inl ⟨rfl, rfl, hl⟩
    · rw [List.getElem?_eq_none (by simpa using hl)] at h
      cases h
  · rw [List.getElem?_set_ne (Ne.symm e)] at h
    exact .inr ⟨e, h⟩
theorem Loc.mono {n : Nat} {own own' : Nat → Prop} {a : A} {x : PyData} (h : Loc n S own a x) (w : ∀ k, own' k → own k) : Loc n S own' a x := by
  rcases h with h | ⟨k, h1, h2, h3, h4⟩
  · exact .inl h
  · exact .inr ⟨k, h1, h2, h3, fun z => h4 (w k z)⟩
theorem SlOk.mono {own own' : Nat → Prop} {r : Nat} {u : Option A} {s : Sl} (h : SlOk B S own r u s) (w : ∀ k, own' k → own k) : SlOk B S own' r u s := by
  cases s with
  | ro x => exact let ⟨a, e, l⟩ := h; ⟨a, e, l.mono w⟩
  | fx a x => exact ⟨h.1, h.2.mono w⟩
  | _ => exact h
/-- one slot told anew, no object of one's own -/
theorem Rel.put (R : Rel ⟨B, c⟩ env S) (i : Nat) (s : Sl) (u : Option A) (hs : ∀ o, s ≠ .ow o) (h : ∀ ρ, (∀ i s, c[i]? = some s → SlOk B S (ownBy c ρ) (ρ i) (env[i]?.join) s) → i < c.length → SlOk B S (ownBy c ρ) (ρ i) u s) : Rel ⟨B, c.set i s⟩ (env.set i u) S := by
  obtain ⟨l, p, ρ, inj, ok⟩ := R
  refine ⟨by simpa using l, p, ρ, ?_, ?_⟩
  · intro i1 j1 o o' h1 h2
    rcases ge_set _ _ _ _ _ h1 with ⟨_, z, _⟩ | ⟨_, z⟩
    · exact absurd z.symm (hs _)
    · rcases ge_set _ _ _ _ _ h2 with ⟨_, z2, _⟩ | ⟨_, z2⟩
      · exact absurd z2.symm (hs _)
      · exact inj _ _ _ _ z z2
  · have ow : ∀ k, ownBy (c.set i s) ρ k → ownBy c ρ k := fun k ⟨j, o, e, q⟩ => by
      rcases ge_set _ _ _ _ _ e with ⟨_, z, _⟩ | ⟨_, z⟩
      · exact absurd z.symm (hs _)
      · exact ⟨j, o, z, q⟩
    intro j s' e
    rcases ge_set _ _ _ _ _ e with ⟨rfl, rfl, hl⟩ | ⟨n, z⟩
    · have l' : env.length = c.length := l
      rw [List.getElem?_set_self (by omega)]
      exact (h ρ ok hl).mono ow
    · rw [List.getElem?_set_ne (Ne.symm n)]
      exact (ok _ _ z).mono ow
theorem Rel.va (R : Rel ⟨B, c⟩ env S) (i : Nat) (x : PyData) : Rel ⟨B, c.set i (.va x)⟩ (env.set i (some (.d x))) S := R.put i _ _ (by intro o; simp) fun _ _ _ => rfl
theorem Rel.no (R : Rel ⟨B, c⟩ env S) (i : Nat) (u : Option A) : Rel ⟨B, c.set i .no⟩ (env.set i u) S := R.put i _ _ (by intro o; simp) fun _ _ _ => trivial
/-- a slot that is told nothing of may hold anything -/
theorem Rel.any (R : Rel ⟨B, c⟩ env S) {i : Nat} (h : c[i]? = some .no) (u : Option A) : Rel ⟨B, c⟩ (env.set i u) S := by
  have := R.no i u
  have e : c.set i .no = c := by
    apply List.ext_getElem?
    intro j
    by_cases hj : j = i
    · subst hj
      rw [h, List.getElem?_set_self]
      rcases Nat.lt_or_ge j c.length with z | z
      · exact z
      · rw [List.getElem?_eq_none z] at h
        cases h
    · rw [List.getElem?_set_ne (Ne.symm hj)]
  rwa [e] at this
/-- what is told of a slot says less -/
inductive Wk1 : Sl → Sl → Prop
  | no (s : Sl) : Wk1 s .no
  | eq (s : Sl) : Wk1 s s
  | vr (x : PyData) : Wk1 (.va x) (.ro x)
  | vp (x : PyData) : Wk1 (.va x) (.pv x)
  | or (o : Ob) (x : PyData) (h : obD o = some x) : Wk1 (.ow o) (.ro x)
  | fr (a : A) (x : PyData) : Wk1 (.fx a x) (.ro x)
inductive Wks : List Sl → List Sl → Prop
  | nil : Wks [] []
  | cons {s s' : Sl} {c c' : List Sl} (h : Wk1 s s') (t : Wks c c') : Wks (s :: c) (s' :: c')
theorem Wks.len {c c' : List Sl} : Wks c c' → c.length = c'.length
  | .nil => rfl
  | .cons _ t => by rw [List.length_cons, List.length_cons, t.len]
theorem Wks.get {c c' : List Sl} (h : Wks c c') : ∀ {i : Nat} {s' : Sl}, c'[i]? = some s' → ∃ s, c[i]? = some s ∧ Wk1 s s' := by
  induction h with
  | nil => intro i s' e; simp at e
  | cons h t ih =>
    intro i s' e
    cases i with
    | zero =>
      simp at e
      subst e
      exact ⟨_, rfl, h⟩
    | succ i => exact ih (by simpa using e)
theorem Rel.wk (R : Rel ⟨B, c⟩ env S) {c' : List Sl} (h : Wks c c') : Rel ⟨B, c'⟩ env S := by
  obtain ⟨l, p, ρ, inj, ok⟩ := R
  have own : ∀ {i : Nat} {o : Ob}, c'[i]? = some (.ow o) → c[i]? = some (.ow o) := fun {i o} e => by
    obtain ⟨s, e1, w⟩ := h.get e
    cases w
    exact e1
  refine ⟨l.trans h.len, p, ρ, fun i j o o' e1 e2 => inj i j o o' (own e1) (own e2), fun i s' e => ?_⟩
  have ow : ∀ k, ownBy c' ρ k → ownBy c ρ k := fun k ⟨j, o, e, q⟩ => ⟨j, o, own e, q⟩
  obtain ⟨s, e1, w⟩ := h.get e
  have q := ok i s e1
  cases w with
  | no => trivial
  | eq => exact q.mono ow
  | vr x => exact ⟨_, q, .inl rfl⟩
  | vp x => exact ⟨_, q, rfl⟩
  | or o x hx =>
    obtain ⟨q1, q2, q3⟩ := q
    refine ⟨_, q1, .inr ⟨ρ i, rfl, q2, (deref_obj _ _ _).mpr ⟨o, q3, hx⟩, fun z => ?_⟩⟩
    obtain ⟨j, o', e2, q⟩ := z
    have := inj j i o' o (own e2) e1 q
    subst this
    rw [e] at e2
    cases e2
  | fr a x => exact ⟨a, q.1, q.2.mono ow⟩
theorem flat_all_set {X : Sto} {k : Nat} {o : Ob} (h : X.all Ob.flat = true) (ho : o.flat = true) : (X.set k o).all Ob.flat = true := by
  rw [List.all_eq_true] at h ⊢
  intro x hx
  rcases List.mem_or_eq_of_mem_set hx with z | z
  · exact h x z
  · exact z ▸ ho
theorem app_set {B X : Sto} {k : Nat} {o : Ob} (h : B.length ≤ k) : (B ++ X).set k o = B ++ X.set (k - B.length) o := by
  rw [List.set_append, if_neg (by omega)]
/-- a new object of one's own -/
theorem Rel.new (R : Rel ⟨B, c⟩ env S) (i : Nat) (o : Ob) (hf : o.flat = true) : Rel ⟨B, c.set i (.ow o)⟩ (env.set i (some (.obj S.length))) (S ++ [o]) := by
  obtain ⟨l, ⟨X, rfl, fl⟩, ρ, inj, ok⟩ := R
  have l' : env.length = c.length := l
  -- the old objects lie below
  have low : ∀ j o', c[j]? = some (.ow o') → ρ j < (B ++ X).length := fun j o' e => by
    obtain ⟨_, _, q⟩ := ok j _ e
    rcases Nat.lt_or_ge (ρ j) (B ++ X).length with z | z
    · exact z
    · rw [List.getElem?_eq_none z] at q
      cases q
  refine ⟨by simpa using l, ⟨X ++ [o], by simp, by rw [List.all_append, fl]; simpa using hf⟩, fun j => if j = i then (B ++ X).length else ρ j, ?_, ?_⟩
  · intro i1 j1 o1 o2 h1 h2 e
    rcases ge_set _ _ _ _ _ h1 with ⟨z1, _, _⟩ | ⟨n1, z1⟩ <;> rcases ge_set _ _ _ _ _ h2 with ⟨z2, _, _⟩ | ⟨n2, z2⟩
    · omega
    · simp only [z1, if_true, if_neg n2] at e
      have := low _ _ z2
      omega
    · simp only [z2, if_true, if_neg n1] at e
      have := low _ _ z1
      omega
    · simp only [if_neg n1, if_neg n2] at e
      exact inj _ _ _ _ z1 z2 e
  · have deq : ∀ k x, deref (B ++ X) (.obj k) = some x → deref (B ++ X ++ [o]) (.obj k) = some x := fun k x h => by
      obtain ⟨o', h1, h2⟩ := (deref_obj _ _ _).mp h
      refine (deref_obj _ _ _).mpr ⟨o', ?_, h2⟩
      have hk : k < (B ++ X).length := by
        rcases Nat.lt_or_ge k (B ++ X).length with z | z
        · exact z
        · rw [List.getElem?_eq_none z] at h1
          cases h1
      rw [List.getElem?_append_left hk]
      exact h1
    have loc : ∀ a x, Loc B.length (B ++ X) (ownBy c ρ) a x → Loc B.length (B ++ X ++ [o]) (ownBy (c.set i (.ow o)) fun j => if j = i then (B ++ X).length else ρ j) a x := fun a x h => by
      rcases h with h | ⟨k, h1, h2, h3, h4⟩
      · exact .inl h
      · refine .inr ⟨k, h1, h2, deq _ _ h3, fun z => ?_⟩
        obtain ⟨j, o', e, q⟩ := z
        rcases ge_set _ _ _ _ _ e with ⟨z, _, _⟩ | ⟨n, z⟩
        · simp only [z, if_true] at q
          obtain ⟨o', g, _⟩ := (deref_obj _ _ _).mp h3
          rw [← q, List.getElem?_eq_none (Nat.le_refl _)] at g
          cases g
        · simp only [if_neg n] at q
          exact h4 ⟨j, o', z, q⟩
    intro j s' e
    rcases ge_set _ _ _ _ _ e with ⟨rfl, rfl, hl⟩ | ⟨n, z⟩
    · rw [List.getElem?_set_self (by omega)]
      simp only [if_true]
      refine ⟨rfl, by simp, ?_⟩
      rw [List.getElem?_append_right (Nat.le_refl _)]
      simp
    · rw [List.getElem?_set_ne (Ne.symm n)]
      simp only [if_neg n]
      have q := ok _ _ z
      cases s' with
      | no => trivial
      | va x => exact q
      | ro x => exact let ⟨a, e1, e2⟩ := q; ⟨a, e1, loc _ _ e2⟩
      | fx a x => exact ⟨q.1, loc _ _ q.2⟩
      | pv x => exact q
      | ow o' =>
        obtain ⟨q1, q2, q3⟩ := q
        refine ⟨q1, q2, ?_⟩
        rw [List.getElem?_append_left (low _ _ z)]
        exact q3
      | rf k => exact q
/-- one's own object is written -/
theorem Rel.mut (R : Rel ⟨B, c⟩ env S) {i : Nat} {o : Ob} (h : c[i]? = some (.ow o)) : ∃ k, env[i]? = some (some (.obj k)) ∧ S[k]? = some o ∧ ∀ o', o'.flat = true → Rel ⟨B, c.set i (.ow o')⟩ env (S.set k o') := by
  obtain ⟨l, ⟨X, rfl, fl⟩, ρ, inj, ok⟩ := R
  have l' : env.length = c.length := l
  obtain ⟨q1, q2, q3⟩ := ok i _ h
  have hi : i < c.length := by
    rcases Nat.lt_or_ge i c.length with z | z
    · exact z
    · rw [List.getElem?_eq_none z] at h
      cases h
  have hk : ρ i < (B ++ X).length := by
    rcases Nat.lt_or_ge (ρ i) (B ++ X).length with z | z
    · exact z
    · rw [List.getElem?_eq_none z] at q3
      cases q3
  refine ⟨ρ i, ?_, q3, fun o' fo => ?_⟩
  · rw [List.getElem?_eq_getElem (by omega)] at q1 ⊢
    simpa using q1
  · have own : ∀ k, ownBy (c.set i (.ow o')) ρ k → ownBy c ρ k := fun k ⟨j, o2, e, q⟩ => by
      rcases ge_set _ _ _ _ _ e with ⟨z, _, _⟩ | ⟨n, z⟩
      · exact ⟨i, o, h, z ▸ q⟩
      · exact ⟨j, o2, z, q⟩
    have oi : ownBy c ρ (ρ i) := ⟨i, o, h, rfl⟩
    have deq : ∀ k x, ¬ ownBy c ρ k → deref (B ++ X) (.obj k) = some x → deref ((B ++ X).set (ρ i) o') (.obj k) = some x := fun k x n h => by
      obtain ⟨o2, h1, h2⟩ := (deref_obj _ _ _).mp h
      refine (deref_obj _ _ _).mpr ⟨o2, ?_, h2⟩
      have ne : ρ i ≠ k := fun z => n (by rw [← z]; exact oi)
      rw [List.getElem?_set_ne ne]
      exact h1
    have loc : ∀ a x, Loc B.length (B ++ X) (ownBy c ρ) a x → Loc B.length ((B ++ X).set (ρ i) o') (ownBy (c.set i (.ow o')) ρ) a x := fun a x h => by
      rcases h with h | ⟨k, h1, h2, h3, h4⟩
      · exact .inl h
      · exact .inr ⟨k, h1, h2, deq _ _ h4 h3, fun z => h4 (own k z)⟩
    refine ⟨by simpa using l, ⟨X.set (ρ i - B.length) o', app_set q2, flat_all_set fl fo⟩, ρ, ?_, ?_⟩
    · intro i1 j1 o1 o2 h1 h2 e
      have f : ∀ {j : Nat} {o1 : Ob}, (c.set i (.ow o'))[j]? = some (Sl.ow o1) → ∃ o2, c[j]? = some (Sl.ow o2) := fun {j o1} e => by
        rcases ge_set _ _ _ _ _ e with ⟨z, _, _⟩ | ⟨n, z⟩
        · exact ⟨o, by rw [z]; exact h⟩
        · exact ⟨_, z⟩
      obtain ⟨_, f1⟩ := f h1
      obtain ⟨_, f2⟩ := f h2
      exact inj _ _ _ _ f1 f2 e
    · intro j s' e
      rcases ge_set _ _ _ _ _ e with ⟨rfl, rfl, hl⟩ | ⟨n, z⟩
      · exact ⟨q1, q2, by rw [List.getElem?_set_self hk]⟩
      · have q := ok _ _ z
        cases s' with
        | no => trivial
        | va x => exact q
        | ro x => exact let ⟨a, e1, e2⟩ := q; ⟨a, e1, loc _ _ e2⟩
        | fx a x => exact ⟨q.1, loc _ _ q.2⟩
        | pv x => exact q
        | ow o2 =>
          obtain ⟨r1, r2, r3⟩ := q
          refine ⟨r1, r2, ?_⟩
          rw [List.getElem?_set_ne]
          · exact r3
          · intro z'
            exact n (inj _ _ _ _ z h z'.symm)
        | rf k => exact q
/-- what a slot holds may be read -/
theorem Rel.see (R : Rel ⟨B, c⟩ env S) {i : Nat} {s : Sl} (h : c[i]? = some s) {x : PyData} (hs : s = .va x ∨ s = .ro x ∨ (∃ a, s = .fx a x) ∨ s = .pv x ∨ ∃ o, s = .ow o ∧ obD o = some x) : ∃ a, env[i]? = some (some a) ∧ deref S a = some x := by
  obtain ⟨l, ⟨X, rfl, fl⟩, ρ, inj, ok⟩ := R
  have q := ok i s h
  have jn : ∀ {a}, env[i]?.join = some a → env[i]? = some (some a) := fun {a} e => by
    cases e1 : env[i]? with
    | none => rw [e1] at e; cases e
    | some u => rw [e1] at e; simp at e; rw [e]
  have loc : ∀ {a}, Loc B.length (B ++ X) (ownBy c ρ) a x → deref (B ++ X) a = some x := fun {a} h => by
    rcases h with h | ⟨k, h1, h2, h3, h4⟩
    · rw [h]; rfl
    · rw [h1]; exact h3
  rcases hs with rfl | rfl | ⟨a, rfl⟩ | rfl | ⟨o, rfl, ho⟩
  · exact ⟨_, jn q, rfl⟩
  · obtain ⟨a, e, q⟩ := q
    exact ⟨a, jn e, loc q⟩
  · exact ⟨a, jn q.1, loc q.2⟩
  · obtain ⟨a, e, q⟩ := q
    refine ⟨a, jn e, ?_⟩
    cases a with
    | d y => exact q
    | obj k =>
      obtain ⟨o, h1, h2⟩ := (deref_obj _ _ _).mp q
      refine (deref_obj _ _ _).mpr ⟨o, ?_, h2⟩
      have hk : k < B.length := by
        rcases Nat.lt_or_ge k B.length with z | z
        · exact z
        · rw [List.getElem?_eq_none z] at h1
          cases h1
      rw [List.getElem?_append_left hk]
      exact h1
    | pr _ _ => cases q
    | seq _ => cases q
  · obtain ⟨q1, q2, q3⟩ := q
    exact ⟨_, jn q1, (deref_obj _ _ _).mpr ⟨o, q3, ho⟩⟩
theorem Rel.dat (R : Rel ⟨B, c⟩ env S) {i : Nat} {x : PyData} (h : c[i]? = some (.va x)) : env[i]? = some (some (.d x)) := by
  obtain ⟨l, p, ρ, inj, ok⟩ := R
  have q : env[i]?.join = some (.d x) := ok i _ h
  cases e1 : env[i]? with
  | none => rw [e1] at q; cases q
  | some u => rw [e1] at q; simp at q; rw [q]
theorem Rel.rf (R : Rel ⟨B, c⟩ env S) {i k : Nat} (h : c[i]? = some (.rf k)) : env[i]? = some (some (.obj k)) ∧ k < B.length := by
  obtain ⟨l, p, ρ, inj, ok⟩ := R
  obtain ⟨q, hk⟩ := ok i _ h
  cases e1 : env[i]? with
  | none => rw [e1] at q; cases q
  | some u => rw [e1] at q; simp at q; exact ⟨by rw [q], hk⟩
/-- pinned: what is walked stays the same thing -/
theorem Rel.pin (R : Rel ⟨B, c⟩ env S) {i : Nat} {x : PyData} (h : c[i]? = some (.ro x)) : ∃ a, env[i]? = some (some a) ∧ deref S a = some x ∧ Rel ⟨B, c.set i (.fx a x)⟩ env S := by
  have hs := R.see h (.inr (.inl rfl))
  obtain ⟨l, p, ρ, inj, ok⟩ := R
  obtain ⟨a, e, q⟩ := ok i _ h
  obtain ⟨a', e', d⟩ := hs
  have ea : a = a' := by
    rw [e'] at e
    simpa using e.symm
  subst ea
  refine ⟨a, e', d, by simpa using l, p, ρ, ?_, ?_⟩
  · intro i1 j1 o o' h1 h2
    rcases ge_set _ _ _ _ _ h1 with ⟨_, z, _⟩ | ⟨_, z⟩
    · cases z
    · rcases ge_set _ _ _ _ _ h2 with ⟨_, z2, _⟩ | ⟨_, z2⟩
      · cases z2
      · exact inj _ _ _ _ z z2
  · have ow : ∀ k, ownBy (c.set i (.fx a x)) ρ k → ownBy c ρ k := fun k ⟨j, o, e, q⟩ => by
      rcases ge_set _ _ _ _ _ e with ⟨_, z, _⟩ | ⟨_, z⟩
      · cases z
      · exact ⟨j, o, z, q⟩
    intro j s' e2
    rcases ge_set _ _ _ _ _ e2 with ⟨rfl, rfl, hl⟩ | ⟨n, z⟩
    · exact ⟨e, q.mono ow⟩
    · exact (ok _ _ z).mono ow
/-- the base changes; its length stays, nothing of it is only looked at -/
def Sl.hasPv : Sl → Bool
  | .pv _ => true
  | _ => false
theorem Rel.base (R : Rel ⟨B, c⟩ env S) {B' : Sto} (hl : B'.length = B.length) (hp : c.any Sl.hasPv = false) : ∃ X, S = B ++ X ∧ Rel ⟨B', c⟩ env (B' ++ X) := by
  obtain ⟨l, ⟨X, rfl, fl⟩, ρ, inj, ok⟩ := R
  refine ⟨X, rfl, l, ⟨X, rfl, fl⟩, ρ, inj, fun i s e => ?_⟩
  have gt : ∀ {k : Nat}, B.length ≤ k → (B' ++ X)[k]? = (B ++ X)[k]? := fun {k} h => by
    rw [List.getElem?_append_right (by omega), List.getElem?_append_right h, hl]
  have loc : ∀ a x, Loc B.length (B ++ X) (ownBy c ρ) a x → Loc B'.length (B' ++ X) (ownBy c ρ) a x := fun a x h => by
    rcases h with h | ⟨k, h1, h2, h3, h4⟩
    · exact .inl h
    · refine .inr ⟨k, h1, by omega, ?_, h4⟩
      obtain ⟨o, g1, g2⟩ := (deref_obj _ _ _).mp h3
      exact (deref_obj _ _ _).mpr ⟨o, by rw [gt h2]; exact g1, g2⟩
  have q := ok i s e
  cases s with
  | no => trivial
  | va x => exact q
  | ro x => exact let ⟨a, e1, e2⟩ := q; ⟨a, e1, loc _ _ e2⟩
  | fx a x => exact ⟨q.1, loc _ _ q.2⟩
  | pv x =>
    rw [List.any_eq_false] at hp
    exact absurd rfl (hp _ (List.mem_of_getElem? e))
  | ow o =>
    obtain ⟨q1, q2, q3⟩ := q
    have q2 : B.length ≤ ρ i := q2
    exact ⟨q1, by show B'.length ≤ _; omega, by rw [gt q2]; exact q3⟩
  | rf k =>
    obtain ⟨q1, q2⟩ := q
    have q2 : k < B.length := q2
    exact ⟨q1, by show _ < B'.length; omega⟩
/-- a thing gets a second name; both only look at it -/
theorem Rel.cpy (R : Rel ⟨B, c⟩ env S) {i j : Nat} {x : PyData} (h : c[j]? = some (.ro x)) : ∃ a, env[j]? = some (some a) ∧ Rel ⟨B, c.set i (.ro x)⟩ (env.set i (some a)) S := by
  obtain ⟨a, e, d, _⟩ := R.pin h
  refine ⟨a, e, R.put i _ _ (by intro o; simp) fun ρ ok hl => ?_⟩
  obtain ⟨a', e', q⟩ := ok j _ h
  rw [e] at e'
  cases e'
  exact ⟨a, rfl, q⟩
/-- a dict that is looked at is locked while it is walked -/
theorem Rel.lock (R : Rel ⟨B, c⟩ env S) {j : Nat} {s : Sl} {kvs : List (PyData × PyData)} (h : c[j]? = some s) (hs : s = .va (.dict kvs) ∨ s = .ro (.dict kvs) ∨ s = .pv (.dict kvs)) (hB : B.all Ob.flat = true) :
    ∃ a w S1 B1, env[j]? = some (some a) ∧ seqF a S = none ∧ lkF a S = some (kvs, w, S1) ∧ Rel ⟨B1, c⟩ env S1 ∧ B1.all Ob.flat = true ∧ unlF w S1 = S := by
  obtain ⟨a, e1, d1⟩ := R.see (x := .dict kvs) h (by rcases hs with rfl | rfl | rfl <;> simp)
  cases a with
  | d y =>
    cases d1
    exact ⟨_, none, S, B, e1, rfl, rfl, R, hB, rfl⟩
  | pr _ _ => cases d1
  | seq _ => cases d1
  | obj k =>
    obtain ⟨o, e2, d2⟩ := (deref_obj _ _ _).mp d1
    cases o with
    | lst _ _ => cases d2
    | ins _ _ => cases d2
    | dic kvs' fz lk =>
      cases d2
      have hseq : seqF (.obj k) S = none := by simp only [seqF, e2]
      by_cases hf : fz = true ∨ lk = true
      · exact ⟨_, none, S, B, e1, hseq, by simp only [lkF, e2, if_pos hf], R, hB, rfl⟩
      · have ef : fz = false ∧ lk = false := by
          cases fz <;> cases lk <;> simp at hf ⊢
        obtain ⟨rfl, rfl⟩ := ef
        have hk : k < S.length := by
          rcases Nat.lt_or_ge k S.length with z | z
          · exact z
          · rw [List.getElem?_eq_none z] at e2
            cases e2
        have eS : unlF (some k) (S.set k (.dic kvs false true)) = S := by
          have : (S.set k (.dic kvs false true))[k]? = some (.dic kvs false true) := List.getElem?_set_self hk
          simp only [unlF, this, List.set_set]
          apply List.ext_getElem?
          intro i
          by_cases hi : i = k
          · subst hi
            rw [List.getElem?_set_self hk, e2]
          · rw [List.getElem?_set_ne (Ne.symm hi)]
        have R0 := R
        obtain ⟨l, ⟨X, eX, fl⟩, ρ, inj, ok⟩ := R
        -- it is no object of one's own
        have own : ¬ ownBy c ρ k := fun ⟨i, o, z1, z2⟩ => by
          have q := ok j s h
          have ej : env[j]?.join = some (.obj k) := by rw [e1]; rfl
          rw [ej] at q
          rcases hs with rfl | rfl | rfl
          · cases q
          · obtain ⟨a', ea, lo⟩ := q
            cases ea
            rcases lo with lo | ⟨k', lo, _, _, n⟩
            · cases lo
            · cases lo
              exact n ⟨i, o, z1, z2⟩
          · obtain ⟨a', ea, lo⟩ := q
            cases ea
            obtain ⟨o', g1, _⟩ := (deref_obj _ _ _).mp lo
            obtain ⟨_, q2, _⟩ := ok i _ z1
            have : k < B.length := by
              rcases Nat.lt_or_ge k B.length with z | z
              · exact z
              · rw [List.getElem?_eq_none z] at g1
                cases g1
            have q2 : B.length ≤ ρ i := q2
            omega
        have deq : ∀ (T : Sto) (b : A) (x : PyData), T[k]? = some (.dic kvs false false) → deref T b = some x → deref (T.set k (.dic kvs false true)) b = some x := fun T b x eT h => by
          cases b with
          | d y => exact h
          | pr _ _ => cases h
          | seq _ => cases h
          | obj i =>
            obtain ⟨o', g1, g2⟩ := (deref_obj _ _ _).mp h
            by_cases hi : i = k
            · subst hi
              rw [eT] at g1
              cases g1
              refine (deref_obj _ _ _).mpr ⟨.dic kvs false true, List.getElem?_set_self ?_, g2⟩
              rcases Nat.lt_or_ge i T.length with z | z
              · exact z
              · rw [List.getElem?_eq_none z] at eT
                cases eT
            · exact (deref_obj _ _ _).mpr ⟨o', by rw [List.getElem?_set_ne (Ne.symm hi)]; exact g1, g2⟩
        have loc : ∀ n b x, Loc n S (ownBy c ρ) b x → Loc n (S.set k (.dic kvs false true)) (ownBy c ρ) b x := fun n b x h => by
          rcases h with h | ⟨k', h1, h2, h3, h4⟩
          · exact .inl h
          · exact .inr ⟨k', h1, h2, deq _ _ _ e2 h3, h4⟩
        have fin : ∀ B1 : Sto, B1.length = B.length → (∀ a x, deref B a = some x → deref B1 a = some x) → (∃ X1, S.set k (.dic kvs false true) = B1 ++ X1 ∧ X1.all Ob.flat = true) → Rel ⟨B1, c⟩ env (S.set k (.dic kvs false true)) := fun B1 hl hd hX => by
          refine ⟨l, hX, ρ, inj, fun i s' e => ?_⟩
          have q := ok i s' e
          cases s' with
          | no => trivial
          | va x => exact q
          | ro x =>
            obtain ⟨a', ea, lo⟩ := q
            refine ⟨a', ea, ?_⟩
            rw [show (⟨B1, c⟩ : Ct).B.length = B.length from hl]
            exact loc _ _ _ lo
          | fx a' x =>
            refine ⟨q.1, ?_⟩
            rw [show (⟨B1, c⟩ : Ct).B.length = B.length from hl]
            exact loc _ _ _ q.2
          | pv x =>
            obtain ⟨a', ea, lo⟩ := q
            exact ⟨a', ea, hd _ _ lo⟩
          | ow o =>
            obtain ⟨q1, q2, q3⟩ := q
            refine ⟨q1, ?_, ?_⟩
            · show B1.length ≤ _
              rw [hl]
              exact q2
            · have nk : k ≠ ρ i := fun z => own ⟨i, o, e, z.symm⟩
              rw [List.getElem?_set_ne nk]
              exact q3
          | rf k' => exact ⟨q.1, by show _ < B1.length; rw [hl]; exact q.2⟩
        have lk1 : lkF (.obj k) S = some (kvs, some k, S.set k (.dic kvs false true)) := by
          simp only [lkF, e2]
          rw [if_neg (by simp)]
        subst eX
        by_cases hkB : k < B.length
        · have eB : B[k]? = some (.dic kvs false false) := by
            rw [List.getElem?_append_left hkB] at e2
            exact e2
          refine ⟨_, some k, _, B.set k (.dic kvs false true), e1, hseq, lk1, fin _ (by simp) (fun a x h => deq _ _ _ eB h) ⟨X, by rw [List.set_append, if_pos hkB], fl⟩, flat_all_set hB rfl, eS⟩
        · refine ⟨_, some k, _, B, e1, hseq, lk1, fin B rfl (fun a x h => h) ⟨X.set (k - B.length) (.dic kvs false true), app_set (Nat.le_of_not_lt hkB), flat_all_set fl rfl⟩, hB, eS⟩
end
end PV

/-! PT2: typed readings of expressions. -/
namespace PV
open PySem PySem.Spec PyProof.Rows L2
/-! encoders -/
def eI : Int → PyData := .int
def eS : Str → PyData := .str
def eB : Bool → PyData := .bool
def eR : PyData → PyData := fun x => x
def eN : Unit → PyData := fun _ => .none
def eE : Unit → PyData := fun _ => .tuple []
section
variable {α β γ δ ε ζ η : Type}
def eO (e : α → PyData) : Option α → PyData
  | none => .none
  | some v => e v
def eL (e : α → PyData) : List α → PyData := fun xs => .list (xs.map e)
def eT (e : α → PyData) : List α → PyData := fun xs => .tuple (xs.map e)
def eP1 (a : α → PyData) : α → PyData := fun v => .tuple [a v]
def eP2 (a : α → PyData) (b : β → PyData) : α × β → PyData := fun v => .tuple [a v.1, b v.2]
def eP3 (a : α → PyData) (b : β → PyData) (c : γ → PyData) : α × β × γ → PyData := fun v => .tuple [a v.1, b v.2.1, c v.2.2]
def eP4 (a : α → PyData) (b : β → PyData) (c : γ → PyData) (d : δ → PyData) : α × β × γ × δ → PyData := fun v => .tuple [a v.1, b v.2.1, c v.2.2.1, d v.2.2.2]
def eP5 (a : α → PyData) (b : β → PyData) (c : γ → PyData) (d : δ → PyData) (e : ε → PyData) : α × β × γ × δ × ε → PyData := fun v => .tuple [a v.1, b v.2.1, c v.2.2.1, d v.2.2.2.1, e v.2.2.2.2]
def eP6 (a : α → PyData) (b : β → PyData) (c : γ → PyData) (d : δ → PyData) (e : ε → PyData) (f : ζ → PyData) : α × β × γ × δ × ε × ζ → PyData := fun v => .tuple [a v.1, b v.2.1, c v.2.2.1, d v.2.2.2.1, e v.2.2.2.2.1, f v.2.2.2.2.2]
end
/-! what is computed -/
section
variable {α β : Type}
def mapO (g : α → Option β) : List α → Option (List β)
  | [] => some []
  | x :: xs => match g x with
    | none => none
    | some y => match mapO g xs with
      | none => none
      | some ys => some (y :: ys)
def filO (p : α → Option Bool) (g : α → Option β) : List α → Option (List β)
  | [] => some []
  | x :: xs => match p x with
    | none => none
    | some false => filO p g xs
    | some true => match g x with
      | none => none
      | some y => match filO p g xs with
        | none => none
        | some ys => some (y :: ys)
@[simp] theorem mapO_some (g : α → β) : ∀ xs : List α, mapO (fun x => some (g x)) xs = some (xs.map g)
  | [] => rfl
  | x :: xs => by simp [mapO, mapO_some g xs]
@[simp] theorem filO_some (p : α → Bool) (g : α → β) : ∀ xs : List α, filO (fun x => some (p x)) (fun x => some (g x)) xs = some ((xs.filter p).map g)
  | [] => rfl
  | x :: xs => by
    rw [filO, filO_some p g xs, List.filter_cons]
    cases p x <;> simp
theorem mapO_congr {g g' : α → Option β} : ∀ {xs : List α}, (∀ x ∈ xs, g x = g' x) → mapO g xs = mapO g' xs
  | [], _ => rfl
  | x :: xs, h => by rw [mapO, mapO, h x (by simp), mapO_congr fun y hy => h y (by simp [hy])]
theorem filO_congr {p p' : α → Option Bool} {g g' : α → Option β} : ∀ {xs : List α}, (∀ x ∈ xs, p x = p' x ∧ (p x = some true → g x = g' x)) → filO p g xs = filO p' g' xs
  | [], _ => rfl
  | x :: xs, h => by
    obtain ⟨h1, h2⟩ := h x (by simp)
    rw [filO, filO, ← h1, filO_congr fun y hy => h y (by simp [hy])]
    cases e : p x with
    | none => rfl
    | some b =>
      cases b with
      | false => rfl
      | true => rw [h2 e]
theorem mapO_eq {g : α → Option β} {g' : α → β} {xs : List α} (h : ∀ x ∈ xs, g x = some (g' x)) : mapO g xs = some (xs.map g') := by
  rw [mapO_congr h, mapO_some]
theorem filO_eq {p : α → Option Bool} {g : α → Option β} {p' : α → Bool} {g' : α → β} {xs : List α} (h : ∀ x ∈ xs, p x = some (p' x) ∧ (p' x = true → g x = some (g' x))) : filO p g xs = some ((xs.filter p').map g') := by
  rw [filO_congr (p' := fun x => some (p' x)) (g' := fun x => some (g' x)) fun x hx => ⟨(h x hx).1, fun e => (h x hx).2 (by rw [(h x hx).1] at e; simpa using e)⟩, filO_some]
end
section
variable (Φ : List Fs) (Γ : List PyData) (C : Ct)
def JE (e : Ex) {α : Type} (enc : α → PyData) (t : Option α) : Prop := ∀ env S, Rel C env S → ∀ v, t = some v → ev Φ Γ e env S = some (.d (enc v), S)
def JV (e : Ex) {α : Type} (enc : α → PyData) (t : Option α) : Prop := ∀ env S, Rel C env S → ∀ v, t = some v → ∃ a, ev Φ Γ e env S = some (a, S) ∧ deref S a = some (enc v)
def JT (e : Ex) (t : Option Bool) : Prop := ∀ env S, Rel C env S → ∀ b, t = some b → ∃ a, ev Φ Γ e env S = some (a, S) ∧ tru S a = some b
def JTs (es : Exs) (t : Option Bool) : Prop := ∀ env S, Rel C env S → ∀ b, t = some b → evTs Φ Γ es env S = some (b, S)
def JI (it : Itx) {α : Type} (enc : α → PyData) (t : Option (List α)) : Prop := ∀ env S, Rel C env S → ∀ xs, t = some xs → ∃ w, evI Φ Γ it env S = some (xs.map enc, w, S) ∧ unlF w S = S
def JI0 (it : Itx) {α : Type} (enc : α → PyData) (t : Option (List α)) : Prop := ∀ env S, Rel C env S → ∀ xs, t = some xs → evI Φ Γ it env S = some (xs.map enc, none, S)
def JO (es : Exs) (t : Option (Option Int)) : Prop := ∀ env S, Rel C env S → ∀ o, t = some o → evOpt Φ Γ es env S = some (o, S)
/-- a list of terms; pk: the data, and whether each is a datum itself -/
def AgO (S : Sto) : List A → List (Bool × PyData) → Prop
  | [], [] => True
  | a :: as, p :: ps => (if p.1 = true then a = .d p.2 else deref S a = some p.2) ∧ AgO S as ps
  | _, _ => False
def JA (es : Exs) {α : Type} (pk : α → List (Bool × PyData)) (t : Option α) : Prop := ∀ env S, Rel C env S → ∀ v, t = some v → ∃ as, evs Φ Γ es env S = some (as, S) ∧ AgO S as (pk v)
end
/-- targets -/
def JB (Φ : List Fs) (Γ : List PyData) (C C' : Ct) (t : Tg) (a : A) : Prop := ∀ env S, Rel C env S → ∃ env', bnd Φ Γ t a env S = some (env', S) ∧ Rel C' env' S
def JBs (Φ : List Fs) (Γ : List PyData) (C C' : Ct) (ts : Tgs) (ds : List PyData) : Prop := ∀ env S, Rel C env S → ∃ env', bnds Φ Γ ts (ds.map .d) env S = some (env', S) ∧ Rel C' env' S
section
variable {Φ : List Fs} {Γ : List PyData} {C : Ct} {α β γ : Type} {ea : α → PyData} {eb : β → PyData} {ec : γ → PyData}
theorem JE.v {e : Ex} {t : Option α} (h : JE Φ Γ C e ea t) : JV Φ Γ C e ea t := fun env S R v hv => ⟨_, h env S R v hv, rfl⟩
theorem JE.of {e : Ex} {t t' : Option α} (h : JE Φ Γ C e ea t) (q : t = t') : JE Φ Γ C e ea t' := q ▸ h
theorem JE.enc {e : Ex} {t : Option α} {ea' : β → PyData} {f : α → β} (h : JE Φ Γ C e ea t) (q : ∀ v, ea v = ea' (f v)) : JE Φ Γ C e ea' (t.map f) := fun env S R v hv => by
  cases t with
  | none => cases hv
  | some u =>
    cases hv
    rw [← q]
    exact h env S R u rfl
theorem JV.enc {e : Ex} {t : Option α} {ea' : β → PyData} {f : α → β} (h : JV Φ Γ C e ea t) (q : ∀ v, ea v = ea' (f v)) : JV Φ Γ C e ea' (t.map f) := fun env S R v hv => by
  cases t with
  | none => cases hv
  | some u =>
    cases hv
    rw [← q]
    exact h env S R u rfl
theorem je_var {i : Nat} {v : α} (h : C.c[i]? = some (.va (ea v))) : JE Φ Γ C (.var i) ea (some v) := fun env S R u hu => by
  cases hu
  rw [ev_var, R.dat h]
theorem jv_ro {i : Nat} {v : α} (h : C.c[i]? = some (.ro (ea v))) : JV Φ Γ C (.var i) ea (some v) := fun env S R u hu => by
  cases hu
  obtain ⟨a, e, d⟩ := R.see h (.inr (.inl rfl))
  exact ⟨a, by rw [ev_var, e], d⟩
theorem jv_fx {i : Nat} {v : α} {a : A} (h : C.c[i]? = some (.fx a (ea v))) : JV Φ Γ C (.var i) ea (some v) := fun env S R u hu => by
  cases hu
  obtain ⟨a, e, d⟩ := R.see h (.inr (.inr (.inl ⟨_, rfl⟩)))
  exact ⟨a, by rw [ev_var, e], d⟩
theorem jv_pv {i : Nat} {v : α} (h : C.c[i]? = some (.pv (ea v))) : JV Φ Γ C (.var i) ea (some v) := fun env S R u hu => by
  cases hu
  obtain ⟨a, e, d⟩ := R.see h (.inr (.inr (.inr (.inl rfl))))
  exact ⟨a, by rw [ev_var, e], d⟩
theorem jv_ow {i : Nat} {v : α} {o : Ob} (h : C.c[i]? = some (.ow o)) (ho : obD o = some (ea v)) : JV Φ Γ C (.var i) ea (some v) := fun env S R u hu => by
  cases hu
  obtain ⟨a, e, d⟩ := R.see h (.inr (.inr (.inr (.inr ⟨o, rfl, ho⟩))))
  exact ⟨a, by rw [ev_var, e], d⟩
theorem je_cst {v : α} {c : PyData} (h : ea v = c) : JE Φ Γ C (.cst c) ea (some v) := fun env S R u hu => by
  cases hu
  rw [ev_cst, h]
theorem je_glb {i : Nat} {v : α} (h : Γ[i]? = some (ea v)) : JE Φ Γ C (.glb i) ea (some v) := fun env S R u hu => by
  cases hu
  rw [ev_glb, h]
/-! operators -/
theorem je_bin {o : Operator} {a b : Ex} {ta : Option α} {tb : Option β} (f : α → β → Option γ) (hop : ∀ x y z, f x y = some z → binD o (ea x) (eb y) = some (ec z)) (ha : JV Φ Γ C a ea ta) (hb : JV Φ Γ C b eb tb) : JE Φ Γ C (.bin o a b) ec (ta.bind fun x => tb.bind fun y => f x y) := fun env S R v hv => by
  cases ta with
  | none => cases hv
  | some x =>
    cases tb with
    | none => cases hv
    | some y =>
      obtain ⟨u, e1, d1⟩ := ha env S R x rfl
      obtain ⟨w, e2, d2⟩ := hb env S R y rfl
      rw [ev_bin, e1]
      simp only [e2, binF, d1, d2, hop x y v hv, Option.map_some]
theorem je_neg {a : Ex} {ta : Option Int} (ha : JE Φ Γ C a eI ta) : JE Φ Γ C (.neg a) eI (ta.map fun x => -x) := fun env S R v hv => by
  cases ta with
  | none => cases hv
  | some x =>
    cases hv
    have := ha env S R x rfl
    unfold eI at this ⊢
    rw [ev_neg, this]
theorem cmpF_de {o : CmpOp} {u w : A} {S : Sto} {x y : PyData} {z : Bool} (d1 : deref S u = some x) (d2 : deref S w = some y) (h : cmpD o x y = some z) : cmpF o u w S = some z := by
  cases o <;> first | (simp only [cmpF, d1, d2, h]; done) | (simp [cmpD] at h; done)
theorem je_cmp {o : CmpOp} {a b : Ex} {ta : Option α} {tb : Option β} (f : α → β → Option Bool) (hop : ∀ x y z, f x y = some z → cmpD o (ea x) (eb y) = some z) (ha : JV Φ Γ C a ea ta) (hb : JV Φ Γ C b eb tb) : JE Φ Γ C (.cmp o a b) eB (ta.bind fun x => tb.bind fun y => f x y) := fun env S R v hv => by
  cases ta with
  | none => cases hv
  | some x =>
    cases tb with
    | none => cases hv
    | some y =>
      obtain ⟨u, e1, d1⟩ := ha env S R x rfl
      obtain ⟨w, e2, d2⟩ := hb env S R y rfl
      have h := hop x y v hv
      rw [ev_cmp, e1]
      have hc : cmpF o u w S = some v := cmpF_de d1 d2 h
      simp only [e2, hc, Option.map_some]
      rfl
theorem je_chn {o p : CmpOp} {a b c : Ex} {ta : Option α} {tb : Option β} {tc : Option γ} (f : α → β → Bool) (g : β → γ → Bool) (hf : ∀ x y, cmpD o (ea x) (eb y) = some (f x y)) (hg : ∀ x y, cmpD p (eb x) (ec y) = some (g x y)) (ha : JV Φ Γ C a ea ta) (hb : JV Φ Γ C b eb tb) (hc : JV Φ Γ C c ec tc) : JE Φ Γ C (.chn o p a b c) eB (ta.bind fun x => tb.bind fun y => if f x y = true then tc.map fun z => g y z else some false) := fun env S R v hv => by
  cases ta with
  | none => cases hv
  | some x =>
    cases tb with
    | none => cases hv
    | some y =>
      obtain ⟨u, e1, d1⟩ := ha env S R x rfl
      obtain ⟨w, e2, d2⟩ := hb env S R y rfl
      have h := hf x y
      have hc1 : cmpF o u w S = some (f x y) := cmpF_de d1 d2 h
      rw [ev_chn, e1]
      simp only [e2, hc1]
      have hv : (if f x y = true then tc.map fun z => g y z else some false) = some v := hv
      cases hfx : f x y with
      | false =>
        rw [hfx] at hv
        cases hv
        rfl
      | true =>
        rw [hfx, if_pos rfl] at hv
        cases tc with
        | none => cases hv
        | some z =>
          cases hv
          obtain ⟨q, e3, d3⟩ := hc env S R z rfl
          have h := hg y z
          have hc2 : cmpF p w q S = some (g y z) := cmpF_de d2 d3 h
          simp only [e3, hc2, Option.map_some]
          rfl
/-- total: a < b < c -/
theorem je_chnT {o p : CmpOp} {a b c : Ex} {x : α} {y : β} {z : γ} (f : α → β → Bool) (g : β → γ → Bool) (hf : ∀ x y, cmpD o (ea x) (eb y) = some (f x y)) (hg : ∀ x y, cmpD p (eb x) (ec y) = some (g x y)) (ha : JV Φ Γ C a ea (some x)) (hb : JV Φ Γ C b eb (some y)) (hc : JV Φ Γ C c ec (some z)) : JE Φ Γ C (.chn o p a b c) eB (some (f x y && g y z)) := (je_chn f g hf hg ha hb hc).of (by simp only [Option.bind_some]; cases f x y <;> rfl)
theorem je_isN {a : Ex} {ta : Option (Option α)} (nn : ∀ v, isD (.d (ea v)) .none = some false) (ha : JE Φ Γ C a (eO ea) ta) : JE Φ Γ C (.cmp .Is a (.cst .none)) eB (ta.map fun x => x.isNone) := fun env S R v hv => by
  cases ta with
  | none => cases hv
  | some x =>
    cases hv
    rw [ev_cmp, ha env S R x rfl]
    cases x with
    | none => rfl
    | some v =>
      simp only [ev_cst, eO, cmpF_is, nn v, Option.map_some]
      rfl
theorem je_isnN {a : Ex} {ta : Option (Option α)} (nn : ∀ v, isD (.d (ea v)) .none = some false) (ha : JE Φ Γ C a (eO ea) ta) : JE Φ Γ C (.cmp .IsNot a (.cst .none)) eB (ta.map fun x => x.isSome) := fun env S R v hv => by
  cases ta with
  | none => cases hv
  | some x =>
    cases hv
    rw [ev_cmp, ha env S R x rfl]
    cases x with
    | none => rfl
    | some v =>
      simp only [ev_cst, eO, cmpF_isn, nn v, Option.map_some]
      rfl
theorem je_isB {a : Ex} {ta : Option Bool} (b : Bool) (ha : JE Φ Γ C a eB ta) : JE Φ Γ C (.cmp .Is a (.cst (.bool b))) eB (ta.map fun x => decide (x = b)) := fun env S R v hv => by
  cases ta with
  | none => cases hv
  | some x =>
    cases hv
    rw [ev_cmp, ha env S R x rfl]
    rfl
theorem je_isnB {a : Ex} {ta : Option Bool} (b : Bool) (ha : JE Φ Γ C a eB ta) : JE Φ Γ C (.cmp .IsNot a (.cst (.bool b))) eB (ta.map fun x => !decide (x = b)) := fun env S R v hv => by
  cases ta with
  | none => cases hv
  | some x =>
    cases hv
    rw [ev_cmp, ha env S R x rfl]
    rfl
/-! truth -/
theorem jt_b {e : Ex} {t : Option Bool} (h : JE Φ Γ C e eB t) : JT Φ Γ C e t := fun env S R b hb => ⟨_, h env S R b hb, rfl⟩
theorem jt_v {e : Ex} {t : Option α} (f : α → Bool) (hf : ∀ v, truD (ea v) = some (f v)) (h : JV Φ Γ C e ea t) : JT Φ Γ C e (t.map f) := fun env S R b hb => by
  cases t with
  | none => cases hb
  | some v =>
    cases hb
    obtain ⟨a, e1, d⟩ := h env S R v rfl
    exact ⟨a, e1, by rw [tru, d]; exact hf v⟩
theorem JT.of {e : Ex} {t t' : Option Bool} (h : JT Φ Γ C e t) (q : t = t') : JT Φ Γ C e t' := q ▸ h
theorem jt_and1 {a : Ex} {t : Option Bool} (h : JT Φ Γ C a t) : JT Φ Γ C (.and (.cons a .nil)) t := fun env S R b hb => by
  rw [ev_and, x_and1]
  exact h env S R b hb
theorem jt_or1 {a : Ex} {t : Option Bool} (h : JT Φ Γ C a t) : JT Φ Γ C (.or (.cons a .nil)) t := fun env S R b hb => by
  rw [ev_or, x_or1]
  exact h env S R b hb
theorem jt_and {a b : Ex} {es : Exs} {ta tb : Option Bool} (ha : JT Φ Γ C a ta) (hb : JT Φ Γ C (.and (.cons b es)) tb) : JT Φ Γ C (.and (.cons a (.cons b es))) (ta.bind fun x => if x = true then tb else some false) := fun env S R v hv => by
  cases ta with
  | none => cases hv
  | some x =>
    obtain ⟨u, e1, d1⟩ := ha env S R x rfl
    rw [ev_and, x_and, e1]
    simp only [d1]
    have hv : (if x = true then tb else some false) = some v := hv
    cases x with
    | false =>
      cases hv
      exact ⟨u, rfl, d1⟩
    | true =>
      have := hb env S R v hv
      rwa [ev_and] at this
theorem jt_or {a b : Ex} {es : Exs} {ta tb : Option Bool} (ha : JT Φ Γ C a ta) (hb : JT Φ Γ C (.or (.cons b es)) tb) : JT Φ Γ C (.or (.cons a (.cons b es))) (ta.bind fun x => if x = true then some true else tb) := fun env S R v hv => by
  cases ta with
  | none => cases hv
  | some x =>
    obtain ⟨u, e1, d1⟩ := ha env S R x rfl
    rw [ev_or, x_or, e1]
    simp only [d1]
    have hv : (if x = true then some true else tb) = some v := hv
    cases x with
    | true =>
      cases hv
      exact ⟨u, rfl, d1⟩
    | false =>
      have := hb env S R v hv
      rwa [ev_or] at this
theorem jt_andT {a b : Ex} {es : Exs} {x y : Bool} (ha : JT Φ Γ C a (some x)) (hb : JT Φ Γ C (.and (.cons b es)) (some y)) : JT Φ Γ C (.and (.cons a (.cons b es))) (some (x && y)) := (jt_and ha hb).of (by cases x <;> rfl)
theorem jt_orT {a b : Ex} {es : Exs} {x y : Bool} (ha : JT Φ Γ C a (some x)) (hb : JT Φ Γ C (.or (.cons b es)) (some y)) : JT Φ Γ C (.or (.cons a (.cons b es))) (some (x || y)) := (jt_or ha hb).of (by cases x <;> rfl)
theorem je_not {a : Ex} {t : Option Bool} (h : JT Φ Γ C a t) : JE Φ Γ C (.not a) eB (t.map fun x => !x) := fun env S R v hv => by
  cases t with
  | none => cases hv
  | some x =>
    cases hv
    obtain ⟨u, e1, d1⟩ := h env S R x rfl
    rw [ev_not, e1]
    simp only [d1, Option.map_some]
    rfl
/-- and, or, of truths -/
theorem je_and1 {a : Ex} {t : Option Bool} (h : JE Φ Γ C a eB t) : JE Φ Γ C (.and (.cons a .nil)) eB t := fun env S R b hb => by
  rw [ev_and, x_and1]
  exact h env S R b hb
theorem je_or1 {a : Ex} {t : Option Bool} (h : JE Φ Γ C a eB t) : JE Φ Γ C (.or (.cons a .nil)) eB t := fun env S R b hb => by
  rw [ev_or, x_or1]
  exact h env S R b hb
theorem je_and {a b : Ex} {es : Exs} {ta tb : Option Bool} (ha : JE Φ Γ C a eB ta) (hb : JE Φ Γ C (.and (.cons b es)) eB tb) : JE Φ Γ C (.and (.cons a (.cons b es))) eB (ta.bind fun x => if x = true then tb else some false) := fun env S R v hv => by
  cases ta with
  | none => cases hv
  | some x =>
    rw [ev_and, x_and, ha env S R x rfl]
    have hv : (if x = true then tb else some false) = some v := hv
    cases x with
    | false =>
      cases hv
      rfl
    | true =>
      have := hb env S R v hv
      rwa [ev_and] at this
theorem je_or {a b : Ex} {es : Exs} {ta tb : Option Bool} (ha : JE Φ Γ C a eB ta) (hb : JE Φ Γ C (.or (.cons b es)) eB tb) : JE Φ Γ C (.or (.cons a (.cons b es))) eB (ta.bind fun x => if x = true then some true else tb) := fun env S R v hv => by
  cases ta with
  | none => cases hv
  | some x =>
    rw [ev_or, x_or, ha env S R x rfl]
    have hv : (if x = true then some true else tb) = some v := hv
    cases x with
    | true =>
      cases hv
      rfl
    | false =>
      have := hb env S R v hv
      rwa [ev_or] at this
theorem je_andT {a b : Ex} {es : Exs} {x y : Bool} (ha : JE Φ Γ C a eB (some x)) (hb : JE Φ Γ C (.and (.cons b es)) eB (some y)) : JE Φ Γ C (.and (.cons a (.cons b es))) eB (some (x && y)) := (je_and ha hb).of (by cases x <;> rfl)
theorem je_orT {a b : Ex} {es : Exs} {x y : Bool} (ha : JE Φ Γ C a eB (some x)) (hb : JE Φ Γ C (.or (.cons b es)) eB (some y)) : JE Φ Γ C (.or (.cons a (.cons b es))) eB (some (x || y)) := (je_or ha hb).of (by cases x <;> rfl)
/-- x or y, of alike things -/
theorem je_orV {a b : Ex} {ta tb : Option α} (f : α → Bool) (hf : ∀ v, truD (ea v) = some (f v)) (ha : JE Φ Γ C a ea ta) (hb : JE Φ Γ C b ea tb) : JE Φ Γ C (.or (.cons a (.cons b .nil))) ea (ta.bind fun x => if f x = true then some x else tb) := fun env S R v hv => by
  cases ta with
  | none => cases hv
  | some x =>
    rw [ev_or, x_or, ha env S R x rfl]
    have ht : tru S (.d (ea x)) = some (f x) := hf x
    simp only [ht]
    have hv : (if f x = true then some x else tb) = some v := hv
    cases hfx : f x with
    | true =>
      rw [hfx] at hv
      cases hv
      rfl
    | false =>
      rw [hfx] at hv
      simp only [x_or1]
      exact hb env S R v hv
theorem je_ite {c a b : Ex} {tc : Option Bool} {ta tb : Option α} (hc : JT Φ Γ C c tc) (ha : JE Φ Γ C a ea ta) (hb : JE Φ Γ C b ea tb) : JE Φ Γ C (.ite c a b) ea (tc.bind fun x => if x = true then ta else tb) := fun env S R v hv => by
  cases tc with
  | none => cases hv
  | some x =>
    obtain ⟨u, e1, d1⟩ := hc env S R x rfl
    rw [ev_ite, e1]
    simp only [d1]
    have hv : (if x = true then ta else tb) = some v := hv
    cases x with
    | true => exact ha env S R v hv
    | false => exact hb env S R v hv
theorem je_iteT {c a b : Ex} {tc : Option Bool} {x y : α} (hc : JT Φ Γ C c tc) (ha : JE Φ Γ C a ea (some x)) (hb : JE Φ Γ C b ea (some y)) : JE Φ Γ C (.ite c a b) ea (tc.map fun z => if z = true then x else y) := (je_ite hc ha hb).of (by cases tc with | none => rfl | some z => cases z <;> rfl)
theorem jv_ite {c a b : Ex} {tc : Option Bool} {ta tb : Option α} (hc : JT Φ Γ C c tc) (ha : JV Φ Γ C a ea ta) (hb : JV Φ Γ C b ea tb) : JV Φ Γ C (.ite c a b) ea (tc.bind fun x => if x = true then ta else tb) := fun env S R v hv => by
  cases tc with
  | none => cases hv
  | some x =>
    obtain ⟨u, e1, d1⟩ := hc env S R x rfl
    rw [ev_ite, e1]
    simp only [d1]
    have hv : (if x = true then ta else tb) = some v := hv
    cases x with
    | true => exact ha env S R v hv
    | false => exact hb env S R v hv
/-! items, slices -/
theorem ixF_de {a i : A} {S : Sto} {x y : PyData} (ha : deref S a = some x) (hi : deref S i = some y) : ixF a i S = (ixD x y).map .d := by
  cases a with
  | d z =>
    cases i with
    | d w => cases ha; cases hi; rfl
    | obj k => simp only [ixF, ha, hi]
    | pr _ _ => cases hi
    | seq _ => cases hi
  | obj k =>
    cases i <;> simp only [ixF, ha, hi]
  | pr _ _ => cases ha
  | seq _ => cases ha
theorem je_ix {a i : Ex} {ta : Option α} {ti : Option β} (f : α → β → Option γ) (hop : ∀ x y z, f x y = some z → ixD (ea x) (eb y) = some (ec z)) (ha : JV Φ Γ C a ea ta) (hi : JV Φ Γ C i eb ti) : JE Φ Γ C (.ix a i) ec (ta.bind fun x => ti.bind fun y => f x y) := fun env S R v hv => by
  cases ta with
  | none => cases hv
  | some x =>
    cases ti with
    | none => cases hv
    | some y =>
      obtain ⟨u, e1, d1⟩ := ha env S R x rfl
      obtain ⟨w, e2, d2⟩ := hi env S R y rfl
      rw [ev_ix, e1]
      simp only [e2, ixF_de d1 d2, hop x y v hv, Option.map_some]
/-- a written place -/
theorem je_at {a i : Ex} {ta : Option α} {n : Int} (π : α → γ) (hop : ∀ x, ixD (ea x) (.int n) = some (ec (π x))) (ha : JV Φ Γ C a ea ta) (hi : JE Φ Γ C i eI (some n)) : JE Φ Γ C (.ix a i) ec (ta.map π) := fun env S R v hv => by
  cases ta with
  | none => cases hv
  | some x =>
    cases hv
    obtain ⟨u, e1, d1⟩ := ha env S R x rfl
    have e2 := hi env S R n rfl
    rw [ev_ix, e1]
    simp only [e2]
    rw [ixF_de d1 (y := .int n) rfl, hop x]
    rfl
theorem jo_nil : JO Φ Γ C .nil (some none) := fun env S R o ho => by
  cases ho
  rw [evOpt]
theorem jo_cons {e : Ex} {t : Option Int} (h : JE Φ Γ C e eI t) : JO Φ Γ C (.cons e .nil) (t.map some) := fun env S R o ho => by
  cases t with
  | none => cases ho
  | some i =>
    cases ho
    rw [evOpt, h env S R i rfl]
    rfl
theorem je_slc {a : Ex} {lo hi : Exs} {ta : Option α} {tl th : Option (Option Int)} (f : α → Option Int → Option Int → γ) (hop : ∀ x l h, slcD (ea x) l h = some (ec (f x l h))) (ha : JV Φ Γ C a ea ta) (hl : JO Φ Γ C lo tl) (hh : JO Φ Γ C hi th) : JE Φ Γ C (.slc a lo hi) ec (ta.bind fun x => tl.bind fun l => th.map fun h => f x l h) := fun env S R v hv => by
  cases ta with
  | none => cases hv
  | some x =>
    cases tl with
    | none => cases hv
    | some l =>
      cases th with
      | none => cases hv
      | some h =>
        cases hv
        obtain ⟨u, e1, d1⟩ := ha env S R x rfl
        rw [ev_slc, e1]
        simp only [hl env S R l rfl, hh env S R h rfl, d1, hop, Option.map_some]
/-- a written slice -/
theorem je_slcC {a : Ex} {lo hi : Exs} {ta : Option α} {l h : Option Int} (π : α → γ) (hop : ∀ x, slcD (ea x) l h = some (ec (π x))) (ha : JV Φ Γ C a ea ta) (hl : JO Φ Γ C lo (some l)) (hh : JO Φ Γ C hi (some h)) : JE Φ Γ C (.slc a lo hi) ec (ta.map π) := fun env S R v hv => by
  cases ta with
  | none => cases hv
  | some x =>
    cases hv
    obtain ⟨u, e1, d1⟩ := ha env S R x rfl
    rw [ev_slc, e1]
    simp only [hl env S R l rfl, hh env S R h rfl, d1, hop, Option.map_some]
/-! displays, arguments -/
theorem ja_nil : JA Φ Γ C .nil (fun _ : Unit => []) (some ()) := fun env S R v hv => ⟨[], x_evs_nil .., trivial⟩
theorem ja_cons {e : Ex} {es : Exs} {ta : Option α} {tb : Option β} {pk : β → List (Bool × PyData)} (h : JE Φ Γ C e ea ta) (hs : JA Φ Γ C es pk tb) : JA Φ Γ C (.cons e es) (fun v : α × β => (true, ea v.1) :: pk v.2) (ta.bind fun x => tb.map fun y => (x, y)) := fun env S R v hv => by
  cases ta with
  | none => cases hv
  | some x =>
    cases tb with
    | none => cases hv
    | some y =>
      cases hv
      obtain ⟨as, e2, q⟩ := hs env S R y rfl
      refine ⟨.d (ea x) :: as, ?_, ⟨by simp, q⟩⟩
      rw [x_evs_cons, h env S R x rfl]
      simp only [e2]
theorem ja_consV {e : Ex} {es : Exs} {ta : Option α} {tb : Option β} {pk : β → List (Bool × PyData)} (h : JV Φ Γ C e ea ta) (hs : JA Φ Γ C es pk tb) : JA Φ Γ C (.cons e es) (fun v : α × β => (false, ea v.1) :: pk v.2) (ta.bind fun x => tb.map fun y => (x, y)) := fun env S R v hv => by
  cases ta with
  | none => cases hv
  | some x =>
    cases tb with
    | none => cases hv
    | some y =>
      cases hv
      obtain ⟨as, e2, q⟩ := hs env S R y rfl
      obtain ⟨a, e1, d⟩ := h env S R x rfl
      refine ⟨a :: as, ?_, ⟨by simpa using d, q⟩⟩
      rw [x_evs_cons, e1]
      simp only [e2]
theorem frz_ago {S : Sto} : ∀ {as : List A} {ps : List (Bool × PyData)}, AgO S as ps → (∀ p ∈ ps, p.1 = true) → frzAll as S = some (ps.map (·.2), S)
  | [], [], _, _ => rfl
  | a :: as, p :: ps, h, hp => by
    obtain ⟨h1, h2⟩ := h
    rw [if_pos (hp p (by simp))] at h1
    subst h1
    rw [frzAll_d, frz_ago h2 fun q hq => hp q (by simp [hq])]
    rfl
  | [], _ :: _, h, _ => h.elim
  | _ :: _, [], h, _ => h.elim
theorem je_tup {es : Exs} {ta : Option α} {pk : α → List (Bool × PyData)} (h : JA Φ Γ C es pk ta) (f : α → γ) (hp : ∀ v, pk v = (pk v).map (fun p => (true, p.2)) ∧ .tuple ((pk v).map (·.2)) = ec (f v)) : JE Φ Γ C (.tup es) ec (ta.map f) := fun env S R v hv => by
  cases ta with
  | none => cases hv
  | some x =>
    cases hv
    obtain ⟨as, e1, q⟩ := h env S R x rfl
    obtain ⟨h1, h2⟩ := hp x
    have hq : ∀ p ∈ pk x, p.1 = true := fun p hp => by
      rw [h1] at hp
      obtain ⟨p', _, rfl⟩ := List.mem_map.mp hp
      rfl
    rw [ev_tup, e1]
    simp only [frz_ago q hq, h2]
theorem je_lst {es : Exs} {ta : Option α} {pk : α → List (Bool × PyData)} (h : JA Φ Γ C es pk ta) (f : α → γ) (hp : ∀ v, pk v = (pk v).map (fun p => (true, p.2)) ∧ .list ((pk v).map (·.2)) = ec (f v)) : JE Φ Γ C (.lst es) ec (ta.map f) := fun env S R v hv => by
  cases ta with
  | none => cases hv
  | some x =>
    cases hv
    obtain ⟨as, e1, q⟩ := h env S R x rfl
    obtain ⟨h1, h2⟩ := hp x
    have hq : ∀ p ∈ pk x, p.1 = true := fun p hp => by
      rw [h1] at hp
      obtain ⟨p', _, rfl⟩ := List.mem_map.mp hp
      rfl
    rw [ev_lst, e1]
    simp only [frz_ago q hq, h2]
/-- a def is called: what it does with such arguments -/
def FnT (Φ : List Fs) (i : Nat) {α γ : Type} (pk : α → List (Bool × PyData)) (F : α → Option γ) (ec : γ → PyData) : Prop := ∃ m, Φ[i]? = some m ∧ ∀ S as v r, S.all Ob.flat = true → AgO S as (pk v) → F v = some r → ∃ X : Sto, X.all Ob.flat = true ∧ m as S = some (.d (ec r), S ++ X)
theorem gc_app {x : PyData} {S X : Sto} (h : S.all Ob.flat = true ∨ True) (hx : ((S ++ X).take S.length).all Ob.flat = true) : gc (.d x) S (S ++ X) = S := by
  unfold gc
  simp only
  rw [if_pos hx]
  simp
theorem Rel.flat {C : Ct} {env : En} {S : Sto} (R : Rel C env S) (hB : C.B.all Ob.flat = true) : S.all Ob.flat = true := by
  obtain ⟨Y, rfl, hY⟩ := R.pre
  rw [List.all_append, hB, hY]
  rfl
theorem je_call {i : Nat} {es : Exs} {ta : Option α} {pk : α → List (Bool × PyData)} {F : α → Option γ} (h : JA Φ Γ C es pk ta) (hf : FnT Φ i pk F ec) (hB : C.B.all Ob.flat = true) : JE Φ Γ C (.call i es) ec (ta.bind F) := fun env S R v hv => by
  cases ta with
  | none => cases hv
  | some x =>
    obtain ⟨as, e1, q⟩ := h env S R x rfl
    obtain ⟨m, e2, hm⟩ := hf
    obtain ⟨X, hX, e3⟩ := hm S as x v (R.flat hB) q hv
    rw [r_call e1 e2 e3, gc_app (.inr trivial)]
    rw [List.take_left]
    exact R.flat hB
/-! built-ins -/
theorem bltF_de {b : Bl} {a : A} {S : Sto} {x : PyData} (h : deref S a = some x) : bltF b [a] S = (bltD b x).map .d := by
  cases a with
  | d y => cases h; rfl
  | obj k => simp only [bltF, h, Option.bind_some]
  | pr _ _ => cases h
  | seq _ => cases h
theorem je_blt {b : Bl} {a : Ex} {ta : Option α} (f : α → Option γ) (hop : ∀ x z, f x = some z → bltD b (ea x) = some (ec z)) (ha : JV Φ Γ C a ea ta) : JE Φ Γ C (.blt b (.cons a .nil)) ec (ta.bind f) := fun env S R v hv => by
  cases ta with
  | none => cases hv
  | some x =>
    obtain ⟨u, e1, d1⟩ := ha env S R x rfl
    rw [ev_blt, x_evs_cons, e1]
    simp only [x_evs_nil, bltF_de d1, hop x v hv, Option.map_some]
theorem je_blt2 {b : Bl} {a a' : Ex} {ta : Option α} {tb : Option β} (f : α → β → Option γ) (hop : ∀ x y z, f x y = some z → bltD2 b (ea x) (eb y) = some (ec z)) (ha : JE Φ Γ C a ea ta) (hb : JE Φ Γ C a' eb tb) : JE Φ Γ C (.blt b (.cons a (.cons a' .nil))) ec (ta.bind fun x => tb.bind fun y => f x y) := fun env S R v hv => by
  cases ta with
  | none => cases hv
  | some x =>
    cases tb with
    | none => cases hv
    | some y =>
      rw [ev_blt, x_evs_cons, ha env S R x rfl]
      simp only [x_evs_cons, x_evs_nil, hb env S R y rfl, bltF_dd, hop x y v hv, Option.map_some]
def notDic : PyData → Bool
  | .dict _ => false
  | _ => true
theorem je_isi {a : Ex} {ts : List Ty} {ta : Option α} (f : α → Bool) (hop : ∀ x, notDic (ea x) = true ∧ (ts.any fun t => typeOk (ea x) t) = f x) (ha : JV Φ Γ C a ea ta) : JE Φ Γ C (.isi a ts) eB (ta.map f) := fun env S R v hv => by
  cases ta with
  | none => cases hv
  | some x =>
    cases hv
    obtain ⟨u, e1, d1⟩ := ha env S R x rfl
    obtain ⟨h1, h2⟩ := hop x
    rw [ev_isi, e1]
    simp only [d1]
    cases hx : ea x with
    | dict _ => rw [hx] at h1; cases h1
    | _ => rw [hx] at h2; simp only [h2]; rfl
/-! what is walked -/
theorem seqF_de {a : A} {S : Sto} {xs : List PyData} (h : deref S a = some (.list xs) ∨ deref S a = some (.tuple xs)) : ∃ w, seqF a S = some (xs, w) ∧ unlF w S = S := by
  cases a with
  | d y => rcases h with h | h <;> (cases h; exact ⟨_, rfl, rfl⟩)
  | obj k =>
    rcases h with h | h
    · obtain ⟨fz, e⟩ := deref_lst h
      exact ⟨some k, by simp only [seqF, e], by simp only [unlF, e]⟩
    · obtain ⟨o, e, q⟩ := (deref_obj _ _ _).mp h
      cases o <;> cases q
  | pr _ _ => rcases h with h | h <;> cases h
  | seq _ => rcases h with h | h <;> cases h
theorem ji_seq {a : Ex} {ta : Option α} (π : α → List β) (hp : ∀ v, ea v = .list ((π v).map eb) ∨ ea v = .tuple ((π v).map eb)) (h : JV Φ Γ C a ea ta) : JI Φ Γ C (.seq a) eb (ta.map π) := fun env S R xs hx => by
  cases ta with
  | none => cases hx
  | some v =>
    cases hx
    obtain ⟨u, e1, d1⟩ := h env S R v rfl
    obtain ⟨w, e2, e3⟩ := seqF_de (a := u) (S := S) (xs := (π v).map eb) (by rw [d1]; rcases hp v with q | q <;> rw [q] <;> simp)
    exact ⟨w, by rw [x_seq, e1]; simp [e2], e3⟩
theorem ji_seq0 {a : Ex} {ta : Option α} (π : α → List β) (hp : ∀ v, ea v = .list ((π v).map eb) ∨ ea v = .tuple ((π v).map eb)) (h : JE Φ Γ C a ea ta) : JI0 Φ Γ C (.seq a) eb (ta.map π) := fun env S R xs hx => by
  cases ta with
  | none => cases hx
  | some v =>
    cases hx
    rw [x_seq, h env S R v rfl]
    rcases hp v with q | q <;> rw [q] <;> rfl
theorem JI0.i {it : Itx} {t : Option (List α)} (h : JI0 Φ Γ C it ea t) : JI Φ Γ C it ea t := fun env S R xs hx => ⟨none, h env S R xs hx, rfl⟩
def rI (lo hi : Int) : List Int := (List.range (hi - lo).toNat).map fun k => lo + (k : Nat)
theorem iteC {γ : Type} {p q : Prop} [Decidable p] [Decidable q] {a b : γ} (h : p ↔ q) : (if p then a else b) = if q then a else b := by
  by_cases hp : p
  · rw [if_pos hp, if_pos (h.mp hp)]
  · rw [if_neg hp, if_neg fun x => hp (h.mpr x)]
/-- a bound that a kernel need not count down: it stops at an unknown `n` -/
def lowN (M n : Nat) : Bool := match M - n with
  | 0 => false
  | _ + 1 => true
theorem lowN_iff (M n : Nat) : lowN M n = true ↔ n < M := by
  unfold lowN
  split <;> rename_i h <;> simp <;> omega
def rngO (i j : Int) : Option (List Int) := if (lowN 4611686018427387904 i.natAbs && (lowN 4611686018427387904 j.natAbs && lowN 16777217 (j - i).toNat)) = true then some (rI i j) else none
theorem rngO_def (i j : Int) : rngO i j = if ((-4611686018427387904 < i ∧ i < 4611686018427387904) ∧ (-4611686018427387904 < j ∧ j < 4611686018427387904) ∧ (j - i).toNat ≤ 16777216) then some (rI i j) else none := by
  unfold rngO
  refine iteC ?_
  simp only [Bool.and_eq_true, lowN_iff]
  try omega
theorem rngO_F {i j : Int} {xs : List Int} (h : rngO i j = some xs) : rngF i j = some (xs.map eI) := by
  rw [rngO_def] at h
  split at h
  · rename_i c
    cases h
    unfold rngF
    rw [if_pos (by omega)]
    simp [rngD, rI, eI, Function.comp_def]
  · cases h
theorem ji_rng {a : Ex} {t : Option Int} (h : JE Φ Γ C a eI t) : JI0 Φ Γ C (.rng a) eI (t.bind fun n => rngO 0 n) := fun env S R xs hx => by
  cases t with
  | none => cases hx
  | some n =>
    have e := h env S R n rfl
    unfold eI at e
    rw [x_rng, e]
    simp only [rngO_F hx, Option.map_some]
theorem x_rng2 (env : En) (S : Sto) (a b : Ex) : evI Φ Γ (.rng2 a b) env S = match ev Φ Γ a env S with
    | some (.d (.int i), S1) => match ev Φ Γ b env S1 with
      | some (.d (.int j), S2) => (rngF i j).map fun xs => (xs, none, S2)
      | _ => none
    | _ => none := by
  first | (rw [evI]; done) | (rw [evI]; rfl)
theorem ji_rng2 {a b : Ex} {t t2 : Option Int} (h : JE Φ Γ C a eI t) (h2 : JE Φ Γ C b eI t2) : JI0 Φ Γ C (.rng2 a b) eI (t.bind fun i => t2.bind fun j => rngO i j) := fun env S R xs hx => by
  cases t with
  | none => cases hx
  | some i =>
    cases t2 with
    | none => cases hx
    | some j =>
      have e := h env S R i rfl
      have e2 := h2 env S R j rfl
      unfold eI at e e2
      rw [x_rng2, e]
      simp only [e2, rngO_F hx, Option.map_some]
def enmI (xs : List α) : List (Int × α) := (List.range xs.length).zipWith (fun (k : Nat) x => ((k : Int), x)) xs
theorem enmI_F (xs : List α) : enmD (xs.map ea) = (enmI xs).map (eP2 eI ea) := by
  unfold enmD enmI
  rw [List.length_map, List.map_zipWith, List.zipWith_map_right]
  rfl
theorem ji_enm {a : Ex} {ta : Option α} (π : α → List β) (hp : ∀ v, ea v = .list ((π v).map eb) ∨ ea v = .tuple ((π v).map eb)) (h : JE Φ Γ C a ea ta) : JI0 Φ Γ C (.enm a) (eP2 eI eb) (ta.map fun v => enmI (π v)) := fun env S R xs hx => by
  cases ta with
  | none => cases hx
  | some v =>
    cases hx
    have e := h env S R v rfl
    rw [x_enm, e]
    rcases hp v with q | q <;> rw [q] <;> simp only [enmI_F]
theorem x_zip (env : En) (S : Sto) (a b : Ex) : evI Φ Γ (.zip a b) env S = match ev Φ Γ a env S with
    | some (.d (.list xs), S1) => match ev Φ Γ b env S1 with
      | some (.d (.list ys), S2) => if xs.length ≤ 16777216 then some (zipD xs ys, none, S2) else none
      | _ => none
    | some (.d (.tuple xs), S1) => match ev Φ Γ b env S1 with
      | some (.d (.tuple ys), S2) => if xs.length ≤ 16777216 then some (zipD xs ys, none, S2) else none
      | _ => none
    | _ => none := by
  first | (rw [evI]; done) | (rw [evI]; rfl)
def zipO (xs : List α) (ys : List β) : Option (List (α × β)) := if lowN 16777217 xs.length = true then some (xs.zip ys) else none
theorem zipO_def (xs : List α) (ys : List β) : zipO xs ys = if xs.length ≤ 16777216 then some (xs.zip ys) else none := by
  unfold zipO
  refine iteC ?_
  simp only [Bool.and_eq_true, lowN_iff]
  try omega
theorem zip_F (xs : List α) (ys : List β) : zipD (xs.map ea) (ys.map eb) = (xs.zip ys).map (eP2 ea eb) := by
  unfold zipD
  rw [List.zipWith_map, List.zip_eq_zipWith, List.map_zipWith]
  rfl
theorem ji_zip {a b : Ex} {δ ε : Type} {ed : δ → PyData} {ee : ε → PyData} {ta : Option α} {tb : Option β} (π : α → List δ) (π' : β → List ε) (hp : (∀ v, ea v = .list ((π v).map ed)) ∧ (∀ v, eb v = .list ((π' v).map ee)) ∨ (∀ v, ea v = .tuple ((π v).map ed)) ∧ (∀ v, eb v = .tuple ((π' v).map ee))) (h : JE Φ Γ C a ea ta) (h2 : JE Φ Γ C b eb tb) : JI0 Φ Γ C (.zip a b) (eP2 ed ee) (ta.bind fun x => tb.bind fun y => zipO (π x) (π' y)) := fun env S R xs hx => by
  cases ta with
  | none => cases hx
  | some x =>
    cases tb with
    | none => cases hx
    | some y =>
      have e1 := h env S R x rfl
      have e2 := h2 env S R y rfl
      have hx : zipO (π x) (π' y) = some xs := hx
      rw [zipO_def] at hx
      split at hx
      · rename_i hl
        cases hx
        rw [x_zip, e1]
        rcases hp with ⟨q1, q2⟩ | ⟨q1, q2⟩
        · rw [q1, q2] at *
          simp only [e2, List.length_map, hl, if_true, zip_F]
        · rw [q1, q2] at *
          simp only [e2, List.length_map, hl, if_true, zip_F]
      · cases hx
/-! targets -/
theorem jb_nm (i : Nat) (d : PyData) : JB Φ Γ C ⟨C.B, C.c.set i (.va d)⟩ (.nm i) (.d d) := fun env S R => ⟨_, x_bnm .., R.va i d⟩
theorem jbs_nil : JBs Φ Γ C C .nil [] := fun env S R => ⟨env, x_bn .., R⟩
theorem jbs_cons {C1 C2 : Ct} {t : Tg} {ts : Tgs} {d : PyData} {ds : List PyData} (h : JB Φ Γ C C1 t (.d d)) (hs : JBs Φ Γ C1 C2 ts ds) : JBs Φ Γ C C2 (.cons t ts) (d :: ds) := fun env S R => by
  obtain ⟨e1, q1, R1⟩ := h env S R
  obtain ⟨e2, q2, R2⟩ := hs e1 S R1
  exact ⟨e2, by rw [List.map_cons, x_bc, q1]; exact q2, R2⟩
theorem jb_tp {C' : Ct} {ts : Tgs} {d : PyData} (ds : List PyData) (hd : d = .tuple ds) (hl : ds.length = ts.len) (h : JBs Φ Γ C C' ts ds) : JB Φ Γ C C' (.tp ts) (.d d) := fun env S R => by
  obtain ⟨e1, q1, R1⟩ := h env S R
  exact ⟨e1, by rw [hd, x_btp, if_pos hl]; exact q1, R1⟩
theorem x_bpr (env : En) (S : Sto) (ts : Tgs) (x y : A) : bnd Φ Γ (.tp ts) (.pr x y) env S = if ts.len = 2 then bnds Φ Γ ts [x, y] env S else none := by rw [bnd]
/-- a pair that a walk hands on -/
theorem jb_pr {C' : Ct} {ts : Tgs} (x y : PyData) (hl : ts.len = 2) (h : JBs Φ Γ C C' ts [x, y]) : JB Φ Γ C C' (.tp ts) (.pr (.d x) (.d y)) := fun env S R => by
  obtain ⟨e1, q1, R1⟩ := h env S R
  exact ⟨e1, by rw [x_bpr, if_pos hl]; exact q1, R1⟩
/-! comprehensions -/
def wipC (C : Ct) : List Nat → Ct
  | [] => C
  | i :: is => ⟨(wipC C is).B, (wipC C is).c.set i .no⟩
theorem Rel.wip {env : En} {S : Sto} (R : Rel C env S) : ∀ l : List Nat, Rel (wipC C l) (wipeE env l) S
  | [] => R
  | i :: is => (R.wip is).no i none
theorem jts_nil : JTs Φ Γ C .nil (some true) := fun env S R b hb => by
  cases hb
  rw [evTs]
theorem jts_one {e : Ex} {t : Option Bool} (h : JT Φ Γ C e t) : JTs Φ Γ C (.cons e .nil) t := fun env S R b hb => by
  obtain ⟨a, e1, d⟩ := h env S R b hb
  rw [evTs]
  simp only [e1, d, Option.map_some]
theorem compL_filO {f : PyData → Sto → Option (Option PyData × Sto)} {p : α → Option Bool} {g : α → Option β} {S : Sto} (h : ∀ x, (p x = some false → f (ea x) S = some (none, S)) ∧ ∀ y, p x = some true → g x = some y → f (ea x) S = some (some (eb y), S)) : ∀ (xs : List α) (ys : List β), filO p g xs = some ys → compL f (xs.map ea) S = some (ys.map eb, S)
  | [], ys, e => by
    cases e
    rfl
  | x :: xs, ys, e => by
    rw [filO] at e
    obtain ⟨h1, h2⟩ := h x
    rw [List.map_cons, compL]
    cases ep : p x with
    | none => rw [ep] at e; cases e
    | some b =>
      rw [ep] at e
      cases b with
      | false =>
        simp only at e
        rw [h1 ep]
        simp only
        rw [compL_filO h xs ys e]
      | true =>
        simp only at e
        cases eg : g x with
        | none => rw [eg] at e; cases e
        | some y =>
          rw [eg] at e
          simp only at e
          cases er : filO p g xs with
          | none => rw [er] at e; cases e
          | some zs =>
            rw [er] at e
            cases e
            rw [h2 y ep eg]
            simp only
            rw [compL_filO h xs zs er]
            rfl
theorem filO_mapO (g : α → Option β) : ∀ xs : List α, filO (fun _ => some true) g xs = mapO g xs
  | [] => rfl
  | x :: xs => by
    rw [filO, mapO, filO_mapO g xs]
theorem je_comp {t : Tg} {it : Itx} {ifs : Exs} {e : Ex} {tx : Option (List α)} {C' : α → Ct} {p : α → Option Bool} {g : α → Option β} (hi : JI Φ Γ C it ea tx) (hb : ∀ x, JB Φ Γ (wipC C t.slots) (C' x) t (itA it (ea x))) (hp : ∀ x, JTs Φ Γ (C' x) ifs (p x)) (hg : ∀ x, JE Φ Γ (C' x) e eb (g x)) : JE Φ Γ C (.comp t it ifs e) (eL eb) (tx.bind fun xs => filO p g xs) := fun env S R v hv => by
  cases tx with
  | none => cases hv
  | some xs =>
    obtain ⟨w, e1, eu⟩ := hi env S R xs rfl
    rw [ev_comp, e1]
    simp only
    have := compL_filO (ea := ea) (eb := eb) (f := watC w S (cF Φ Γ (itA it) t ifs e (wipeE env t.slots))) (p := p) (g := g) (S := S) (fun x => ?_) xs v hv
    · rw [this]
      simp only [eu]
      rfl
    · obtain ⟨env1, q1, R1⟩ := hb x _ S (R.wip t.slots)
      constructor
      · intro ep
        unfold watC cF
        simp only [q1, hp x _ S R1 false ep, ckB_self, if_true]
      · intro y ep eg
        unfold watC cF
        simp only [q1, hp x _ S R1 true ep, hg x _ S R1 y eg, frz_d, ckB_self, if_true]
theorem je_map {t : Tg} {it : Itx} {e : Ex} {tx : Option (List α)} {C' : α → Ct} {g : α → Option β} (hi : JI Φ Γ C it ea tx) (hb : ∀ x, JB Φ Γ (wipC C t.slots) (C' x) t (itA it (ea x))) (hg : ∀ x, JE Φ Γ (C' x) e eb (g x)) : JE Φ Γ C (.comp t it .nil e) (eL eb) (tx.bind fun xs => mapO g xs) :=
  (je_comp hi hb (fun _ => jts_nil) hg).of (by cases tx with | none => rfl | some xs => exact filO_mapO g xs)
theorem je_mapT {t : Tg} {it : Itx} {e : Ex} {tx : Option (List α)} {C' : α → Ct} {g : α → β} (hi : JI Φ Γ C it ea tx) (hb : ∀ x, JB Φ Γ (wipC C t.slots) (C' x) t (itA it (ea x))) (hg : ∀ x, JE Φ Γ (C' x) e eb (some (g x))) : JE Φ Γ C (.comp t it .nil e) (eL eb) (tx.map fun xs => xs.map g) :=
  (je_map hi hb hg).of (by cases tx with | none => rfl | some xs => exact mapO_some g xs)
theorem je_filT {t : Tg} {it : Itx} {c e : Ex} {tx : Option (List α)} {C' : α → Ct} {p : α → Bool} {g : α → β} (hi : JI Φ Γ C it ea tx) (hb : ∀ x, JB Φ Γ (wipC C t.slots) (C' x) t (itA it (ea x))) (hp : ∀ x, JT Φ Γ (C' x) c (some (p x))) (hg : ∀ x, JE Φ Γ (C' x) e eb (some (g x))) : JE Φ Γ C (.comp t it (.cons c .nil) e) (eL eb) (tx.map fun xs => (xs.filter p).map g) :=
  (je_comp hi hb (fun x => jts_one (hp x)) hg).of (by cases tx with | none => rfl | some xs => exact filO_some p g xs)
theorem je_fil {t : Tg} {it : Itx} {c e : Ex} {tx : Option (List α)} {C' : α → Ct} {p : α → Option Bool} {g : α → Option β} (hi : JI Φ Γ C it ea tx) (hb : ∀ x, JB Φ Γ (wipC C t.slots) (C' x) t (itA it (ea x))) (hp : ∀ x, JT Φ Γ (C' x) c (p x)) (hg : ∀ x, JE Φ Γ (C' x) e eb (g x)) : JE Φ Γ C (.comp t it (.cons c .nil) e) (eL eb) (tx.bind fun xs => filO p g xs) :=
  je_comp hi hb (fun x => jts_one (hp x)) hg
theorem je_lrg {a : Ex} {t : Option Int} (h : JE Φ Γ C a eI t) : JE Φ Γ C (.lrg a) (eL eI) (t.bind fun n => rngO 0 n) := fun env S R xs hx => by
  cases t with
  | none => cases hx
  | some n =>
    have e := h env S R n rfl
    unfold eI at e
    rw [ev_lrg, e]
    simp only [rngO_F hx, Option.map_some]
    rfl
/-! ### dicts -/
def kvE {κ υ : Type} (ek : κ → PyData) (ev : υ → PyData) : κ × υ → PyData × PyData := fun p => (ek p.1, ev p.2)
def eM {κ υ : Type} (ek : κ → PyData) (ev : υ → PyData) : List (κ × υ) → PyData := fun kvs => .dict (kvs.map (kvE ek ev))
/-- what may be a key -/
structure KeyE {κ : Type} (ek : κ → PyData) : Prop where
  key : ∀ x, (keyD (ek x)).isSome = true
  inj : ∀ x y, keyD (ek x) = keyD (ek y) ↔ x = y
theorem key_I : KeyE eI := ⟨fun _ => rfl, fun x y => by simp [eI, keyD]⟩
section
variable {κ υ : Type} {ek : κ → PyData} {ev' : υ → PyData} [DecidableEq κ]
def getM (kvs : List (κ × υ)) (k : κ) : Option υ := (kvs.find? fun p => decide (p.1 = k)).map (·.2)
def putM (kvs : List (κ × υ)) (k : κ) (v : υ) : List (κ × υ) := if (kvs.any fun p => decide (p.1 = k)) = true then kvs.map (fun p => if p.1 = k then (p.1, v) else p) else kvs ++ [(k, v)]
def dropM (kvs : List (κ × υ)) (k : κ) : List (κ × υ) := kvs.filter fun p => decide (p.1 ≠ k)
def mkM (kvs : List (κ × υ)) : List (κ × υ) := kvs.foldl (fun acc p => putM acc p.1 p.2) []
def putO (kvs : List (κ × υ)) (k : κ) (v : υ) : Option (List (κ × υ)) := if lowN 16777216 kvs.length = true then some (putM kvs k v) else none
def popM (kvs : List (κ × υ)) (k : κ) : Option (υ × List (κ × υ)) := (getM kvs k).map fun v => (v, dropM kvs k)
theorem putO_def (kvs : List (κ × υ)) (k : κ) (v : υ) : putO kvs k v = if kvs.length < 16777216 then some (putM kvs k v) else none := by
  unfold putO
  refine iteC ?_
  simp only [lowN_iff]
theorem getP_M (K : KeyE ek) (kvs : List (κ × υ)) (k : κ) : getP (kvs.map (kvE ek ev')) (ek k) = (getM kvs k).map ev' := by
  unfold getP getM
  induction kvs with
  | nil => rfl
  | cons p r ih =>
    rw [List.map_cons, List.find?_cons, List.find?_cons]
    have e : decide (keyD (kvE ek ev' p).1 = keyD (ek k)) = decide (p.1 = k) := by rw [decide_eq_decide]; exact K.inj _ _
    rw [e]
    cases decide (p.1 = k) with
    | true => rfl
    | false => exact ih
theorem putP_M (K : KeyE ek) (kvs : List (κ × υ)) (k : κ) (v : υ) : putP (kvs.map (kvE ek ev')) (ek k) (ev' v) = (putM kvs k v).map (kvE ek ev') := by
  unfold putP putM
  have e1 : ((kvs.map (kvE ek ev')).any fun p => decide (keyD p.1 = keyD (ek k))) = kvs.any fun p => decide (p.1 = k) := by
    rw [List.any_map]
    congr 1
    funext p
    show decide (keyD (ek p.1) = keyD (ek k)) = decide (p.1 = k)
    rw [decide_eq_decide]
    exact K.inj _ _
  rw [e1]
  split
  · rw [List.map_map, List.map_map]
    apply List.map_congr_left
    intro p _
    show (if keyD (ek p.1) = keyD (ek k) then (ek p.1, ev' v) else kvE ek ev' p) = kvE ek ev' (if p.1 = k then (p.1, v) else p)
    by_cases h : p.1 = k
    · rw [if_pos h, if_pos ((K.inj _ _).mpr h)]
      rfl
    · rw [if_neg h, if_neg fun z => h ((K.inj _ _).mp z)]
  · rw [List.map_append]
    rfl
theorem dropP_M (K : KeyE ek) (kvs : List (κ × υ)) (k : κ) : dropP (kvs.map (kvE ek ev')) (ek k) = (dropM kvs k).map (kvE ek ev') := by
  unfold dropP dropM
  rw [List.filter_map]
  congr 1
  apply List.filter_congr
  intro p _
  show decide (keyD (ek p.1) ≠ keyD (ek k)) = decide (p.1 ≠ k)
  rw [decide_eq_decide]
  exact not_congr (K.inj _ _)
theorem mergeP_M (K : KeyE ek) : ∀ (more kvs : List (κ × υ)), mergeP (kvs.map (kvE ek ev')) (more.map (kvE ek ev')) = (more.foldl (fun acc p => putM acc p.1 p.2) kvs).map (kvE ek ev')
  | [], _ => rfl
  | p :: r, kvs => by
    have := mergeP_M K r (putM kvs p.1 p.2)
    rw [List.foldl_cons, ← this, ← putP_M K]
    rfl
/-! what is walked -/
theorem ji_keys0 {a : Ex} {ta : Option (List (κ × υ))} (h : JE Φ Γ C a (eM ek ev') ta) : JI0 Φ Γ C (.seq a) ek (ta.map fun v => v.map (·.1)) := fun env S R xs hx => by
  cases ta with
  | none => cases hx
  | some v =>
    cases hx
    rw [x_seq, h env S R v rfl]
    simp [eM, seqF, lkF, kvE, Function.comp_def]
theorem ji_itm0 {a : Ex} {ta : Option (List (κ × υ))} (h : JE Φ Γ C a (eM ek ev') ta) : JI0 Φ Γ C (.itm a) (eP2 ek ev') ta := fun env S R xs hx => by
  cases ta with
  | none => cases hx
  | some v =>
    cases hx
    rw [x_itm, h env S R _ rfl]
    simp [eM, lkF, itmD, eP2, kvE, Function.comp_def]
/-- .. a dict that is looked at, locked meanwhile -/
def JL (Φ : List Fs) (Γ : List PyData) (C : Ct) (it : Itx) {α : Type} (enc : α → PyData) (xs : List α) : Prop := C.B.all Ob.flat = true → ∀ env S, Rel C env S → ∃ w S1 B1, evI Φ Γ it env S = some (xs.map enc, w, S1) ∧ Rel ⟨B1, C.c⟩ env S1 ∧ B1.all Ob.flat = true ∧ unlF w S1 = S
theorem jl_keys {j : Nat} {s : Sl} (v : List (κ × υ)) (h : C.c[j]? = some s) (hs : s = .va (eM ek ev' v) ∨ s = .ro (eM ek ev' v) ∨ s = .pv (eM ek ev' v)) : JL Φ Γ C (.seq (.var j)) ek (v.map (·.1)) := fun hB env S R => by
  obtain ⟨a, w, S1, B1, e1, e2, e3, R1, f1, u1⟩ := Rel.lock (B := C.B) (c := C.c) R h hs hB
  refine ⟨w, S1, B1, ?_, R1, f1, u1⟩
  rw [x_seq, ev_var, e1]
  simp only [e2, e3, Option.map_some, List.map_map]
  rfl
theorem jl_itm {j : Nat} {s : Sl} (v : List (κ × υ)) (h : C.c[j]? = some s) (hs : s = .va (eM ek ev' v) ∨ s = .ro (eM ek ev' v) ∨ s = .pv (eM ek ev' v)) : JL Φ Γ C (.itm (.var j)) (eP2 ek ev') v := fun hB env S R => by
  obtain ⟨a, w, S1, B1, e1, e2, e3, R1, f1, u1⟩ := Rel.lock (B := C.B) (c := C.c) R h hs hB
  refine ⟨w, S1, B1, ?_, R1, f1, u1⟩
  rw [x_itm, ev_var, e1]
  simp only [e3, Option.map_some, itmD, List.map_map]
  rfl
theorem JI0.l {it : Itx} {xs : List α} (h : JI0 Φ Γ C it ea (some xs)) : JL Φ Γ C it ea xs := fun hB env S R => ⟨none, S, C.B, h env S R xs rfl, R, hB, rfl⟩
end
theorem JE.wk {e : Ex} {t : Option α} {c' : List Sl} (w : Wks C.c c') (h : JE Φ Γ ⟨C.B, c'⟩ e ea t) : JE Φ Γ C e ea t := fun env S R => h env S (Rel.wk (B := C.B) (c := C.c) R w)
/-- a comprehension over it -/
theorem je_compL {t : Tg} {it : Itx} {ifs : Exs} {e : Ex} {xs : List α} {C' : Sto → α → Ct} {p : α → Option Bool} {g : α → Option β} (hB : C.B.all Ob.flat = true) (hi : JL Φ Γ C it ea xs) (hb : ∀ B1 : Sto, B1.all Ob.flat = true → ∀ x, JB Φ Γ (wipC ⟨B1, C.c⟩ t.slots) (C' B1 x) t (itA it (ea x))) (hp : ∀ B1 : Sto, B1.all Ob.flat = true → ∀ x, JTs Φ Γ (C' B1 x) ifs (p x)) (hg : ∀ B1 : Sto, B1.all Ob.flat = true → ∀ x, JE Φ Γ (C' B1 x) e eb (g x)) : JE Φ Γ C (.comp t it ifs e) (eL eb) (filO p g xs) := fun env S R v hv => by
  obtain ⟨w, S1, B1, e1, R1, f1, u1⟩ := hi hB env S R
  rw [ev_comp, e1]
  simp only
  have := compL_filO (ea := ea) (eb := eb) (f := watC w S1 (cF Φ Γ (itA it) t ifs e (wipeE env t.slots))) (p := p) (g := g) (S := S1) (fun x => ?_) xs v hv
  · rw [this]
    simp only [u1]
    rfl
  · obtain ⟨env1, q1, R2⟩ := hb B1 f1 x _ S1 (Rel.wip (C := ⟨B1, C.c⟩) R1 t.slots)
    constructor
    · intro ep
      unfold watC cF
      simp only [q1, hp B1 f1 x _ S1 R2 false ep, ckB_self, if_true]
    · intro y ep eg
      unfold watC cF
      simp only [q1, hp B1 f1 x _ S1 R2 true ep, hg B1 f1 x _ S1 R2 y eg, frz_d, ckB_self, if_true]
theorem je_mapL {t : Tg} {it : Itx} {e : Ex} {xs : List α} {C' : Sto → α → Ct} {g : α → Option β} (hB : C.B.all Ob.flat = true) (hi : JL Φ Γ C it ea xs) (hb : ∀ B1 : Sto, B1.all Ob.flat = true → ∀ x, JB Φ Γ (wipC ⟨B1, C.c⟩ t.slots) (C' B1 x) t (itA it (ea x))) (hg : ∀ B1 : Sto, B1.all Ob.flat = true → ∀ x, JE Φ Γ (C' B1 x) e eb (g x)) : JE Φ Γ C (.comp t it .nil e) (eL eb) (mapO g xs) :=
  (je_compL hB hi hb (fun _ _ _ => jts_nil) hg).of (filO_mapO g xs)
theorem je_filL {t : Tg} {it : Itx} {c e : Ex} {xs : List α} {C' : Sto → α → Ct} {p : α → Option Bool} {g : α → Option β} (hB : C.B.all Ob.flat = true) (hi : JL Φ Γ C it ea xs) (hb : ∀ B1 : Sto, B1.all Ob.flat = true → ∀ x, JB Φ Γ (wipC ⟨B1, C.c⟩ t.slots) (C' B1 x) t (itA it (ea x))) (hp : ∀ B1 : Sto, B1.all Ob.flat = true → ∀ x, JT Φ Γ (C' B1 x) c (p x)) (hg : ∀ B1 : Sto, B1.all Ob.flat = true → ∀ x, JE Φ Γ (C' B1 x) e eb (g x)) : JE Φ Γ C (.comp t it (.cons c .nil) e) (eL eb) (filO p g xs) :=
  je_compL hB hi hb (fun B1 h x => jts_one (hp B1 h x)) hg
section
variable {κ υ : Type} {ek : κ → PyData} {ev' : υ → PyData} [DecidableEq κ]
/-- a dict, pair by pair -/
def dcO (p : α → Option Bool) (f : α → Option κ) (g : α → Option υ) : List α → List (κ × υ) → Option (List (κ × υ))
  | [], acc => some acc
  | x :: xs, acc => match p x with
    | none => none
    | some false => dcO p f g xs acc
    | some true => match f x with
      | none => none
      | some k => match g x with
        | none => none
        | some v => match putO acc k v with
          | none => none
          | some acc' => dcO p f g xs acc'
theorem compDL_dcO (K : KeyE ek) {F : PyData → Sto → Option (Option (PyData × PyData) × Sto)} {p : α → Option Bool} {f : α → Option κ} {g : α → Option υ} {S : Sto} (h : ∀ x, (p x = some false → F (ea x) S = some (none, S)) ∧ ∀ k v, p x = some true → f x = some k → g x = some v → F (ea x) S = some (some (ek k, ev' v), S)) :
    ∀ (xs : List α) (acc r : List (κ × υ)), dcO p f g xs acc = some r → compDL F (xs.map ea) (acc.map (kvE ek ev')) S = some (r.map (kvE ek ev'), S)
  | [], acc, r, e => by
    cases e
    rfl
  | x :: xs, acc, r, e => by
    rw [dcO] at e
    obtain ⟨h1, h2⟩ := h x
    rw [List.map_cons, compDL]
    cases ep : p x with
    | none => rw [ep] at e; cases e
    | some b =>
      rw [ep] at e
      cases b with
      | false =>
        simp only at e
        rw [h1 ep]
        exact compDL_dcO K h xs acc r e
      | true =>
        simp only at e
        cases ef : f x with
        | none => rw [ef] at e; cases e
        | some k =>
          rw [ef] at e
          simp only at e
          cases eg : g x with
          | none => rw [eg] at e; cases e
          | some v =>
            rw [eg] at e
            simp only at e
            rw [putO_def] at e
            split at e
            · cases e
            · rename_i acc' ea'
              split at ea'
              · rename_i hl
                cases ea'
                rw [h2 k v ep ef eg]
                simp only
                rw [if_pos ⟨K.key k, by rw [List.length_map]; exact hl⟩, putP_M K]
                exact compDL_dcO K h xs _ r e
              · cases ea'
theorem je_dcompL {t : Tg} {it : Itx} {ifs : Exs} {ke e : Ex} {xs : List α} {C' : Sto → α → Ct} {p : α → Option Bool} {f : α → Option κ} {g : α → Option υ} (K : KeyE ek) (hB : C.B.all Ob.flat = true) (hi : JL Φ Γ C it ea xs) (hb : ∀ B1 : Sto, B1.all Ob.flat = true → ∀ x, JB Φ Γ (wipC ⟨B1, C.c⟩ t.slots) (C' B1 x) t (itA it (ea x))) (hp : ∀ B1 : Sto, B1.all Ob.flat = true → ∀ x, JTs Φ Γ (C' B1 x) ifs (p x)) (hf : ∀ B1 : Sto, B1.all Ob.flat = true → ∀ x, JE Φ Γ (C' B1 x) ke ek (f x)) (hg : ∀ B1 : Sto, B1.all Ob.flat = true → ∀ x, JE Φ Γ (C' B1 x) e ev' (g x)) : JE Φ Γ C (.dcomp t it ifs ke e) (eM ek ev') (dcO p f g xs []) := fun env S R v hv => by
  obtain ⟨w, S1, B1, e1, R1, f1, u1⟩ := hi hB env S R
  rw [ev_dcomp, e1]
  simp only
  have := compDL_dcO K (ea := ea) (ev' := ev') (F := watC w S1 (dcF Φ Γ (itA it) t ifs ke e (wipeE env t.slots))) (p := p) (f := f) (g := g) (S := S1) (fun x => ?_) xs [] v hv
  · rw [show ([] : List (PyData × PyData)) = (([] : List (κ × υ)).map (kvE ek ev')) from rfl, this]
    simp only [u1]
    rfl
  · obtain ⟨env1, q1, R2⟩ := hb B1 f1 x _ S1 (Rel.wip (C := ⟨B1, C.c⟩) R1 t.slots)
    constructor
    · intro ep
      unfold watC dcF
      simp only [q1, hp B1 f1 x _ S1 R2 false ep, ckB_self, if_true]
    · intro k y ep ef eg
      unfold watC dcF
      simp only [q1, hp B1 f1 x _ S1 R2 true ep, hf B1 f1 x _ S1 R2 k ef, hg B1 f1 x _ S1 R2 y eg, frz_d, ckB_self, if_true]
/-! looks -/
theorem je_dnew : JE Φ Γ C .dnew (eM ek ev') (some []) := fun env S R v hv => by
  cases hv
  rw [ev_dnew]
  rfl
theorem je_d1 {k e : Ex} {tk : Option κ} {te : Option υ} (K : KeyE ek) (hk : JE Φ Γ C k ek tk) (he : JE Φ Γ C e ev' te) : JE Φ Γ C (.d1 k e) (eM ek ev') (tk.bind fun x => te.map fun y => [(x, y)]) := fun env S R v hv => by
  cases tk with
  | none => cases hv
  | some x =>
    cases te with
    | none => cases hv
    | some y =>
      cases hv
      rw [ev_d1, hk env S R x rfl]
      simp only [he env S R y rfl, frz_d, K.key, if_true]
      rfl
theorem je_dget {o k : Ex} {to : Option (List (κ × υ))} {tk : Option κ} (K : KeyE ek) (ho : JV Φ Γ C o (eM ek ev') to) (hk : JE Φ Γ C k ek tk) : JE Φ Γ C (.dget o k) (eO ev') (to.bind fun d => tk.map fun x => getM d x) := fun env S R v hv => by
  cases to with
  | none => cases hv
  | some d =>
    cases tk with
    | none => cases hv
    | some x =>
      cases hv
      obtain ⟨a, e1, d1⟩ := ho env S R d rfl
      rw [ev_dget, e1]
      have d1' : deref S a = some (.dict (d.map (kvE ek ev'))) := d1
      simp only [d1', hk env S R x rfl, getdD, K.key, if_true, getP_M K, Option.map_some]
      cases getM d x <;> rfl
theorem je_dgetd {o k f : Ex} {to : Option (List (κ × υ))} {tk : Option κ} {tf : Option υ} (K : KeyE ek) (ho : JV Φ Γ C o (eM ek ev') to) (hk : JE Φ Γ C k ek tk) (hf : JE Φ Γ C f ev' tf) : JE Φ Γ C (.dgetd o k f) ev' (to.bind fun d => tk.bind fun x => tf.map fun y => (getM d x).getD y) := fun env S R v hv => by
  cases to with
  | none => cases hv
  | some d =>
    cases tk with
    | none => cases hv
    | some x =>
      cases tf with
      | none => cases hv
      | some y =>
        cases hv
        obtain ⟨a, e1, d1⟩ := ho env S R d rfl
        rw [ev_dgetd, e1]
        have d1' : deref S a = some (.dict (d.map (kvE ek ev'))) := d1
        simp only [d1', hk env S R x rfl, hf env S R y rfl, getdD, K.key, if_true, getP_M K, Option.map_some]
        cases getM d x <;> rfl
theorem je_its {srt : Bool} {o : Ex} {to : Option (List (κ × υ))} (f : List (κ × υ) → Option (List (κ × υ))) (hf : ∀ v w, f v = some w → (if srt = true then sortD (v.map (eP2 ek ev')) else some (v.map (eP2 ek ev'))) = some (w.map (eP2 ek ev'))) (ho : JV Φ Γ C o (eM ek ev') to) : JE Φ Γ C (.its srt o) (eL (eP2 ek ev')) (to.bind f) := fun env S R v hv => by
  cases to with
  | none => cases hv
  | some d =>
    obtain ⟨a, e1, d1⟩ := ho env S R d rfl
    have h := hf d v hv
    rw [ev_its, e1]
    have d1' : deref S a = some (.dict (d.map (kvE ek ev'))) := d1
    have ei : itmD (d.map (kvE ek ev')) = d.map (eP2 ek ev') := by simp [itmD, kvE, eP2, Function.comp_def]
    simp only [d1', ei]
    cases srt with
    | false =>
      simp only [Bool.false_eq_true, if_false] at h ⊢
      rw [Option.some.inj h]
      rfl
    | true =>
      simp only [if_true] at h ⊢
      rw [h]
      rfl
end
theorem je_lrg2 {a b : Ex} {t t2 : Option Int} (h : JE Φ Γ C a eI t) (h2 : JE Φ Γ C b eI t2) : JE Φ Γ C (.lrg2 a b) (eL eI) (t.bind fun i => t2.bind fun j => rngO i j) := fun env S R xs hx => by
  cases t with
  | none => cases hx
  | some i =>
    cases t2 with
    | none => cases hx
    | some j =>
      have e := h env S R i rfl
      have e2 := h2 env S R j rfl
      unfold eI at e e2
      rw [ev_lrg2, e]
      simp only [e2, rngO_F hx, Option.map_some]
      rfl
end
end PV

/-! PT3: typed readings of statements. -/
namespace PV
open PySem PySem.Spec PyProof.Rows L2
abbrev Res := Option (Fl × En × Sto)
inductive Ou (ρ β σ : Type) where
  | nx (s : σ) | rt (r : ρ) | bk (s : β) | ct (s : β)
section
variable {ρ β σ τ Ω α : Type}
def semN (P : σ → En → Sto → Prop) : σ → Res → Prop := fun s res => ∃ e S, res = some (.nx, e, S) ∧ P s e S
def semR (er : ρ → PyData) (rb : ρ → Sto) : ρ → Res → Prop := fun r res => ∃ e S X, res = some (.rt (.d (er r)), e, S) ∧ S = rb r ++ X ∧ X.all Ob.flat = true
def semS (er : ρ → PyData) (rb : ρ → Sto) (Pl : β → En → Sto → Prop) (P : σ → En → Sto → Prop) : Ou ρ β σ → Res → Prop
  | .nx s, res => semN P s res
  | .rt r, res => semR er rb r res
  | .bk s, res => ∃ e S, res = some (.bk, e, S) ∧ Pl s e S
  | .ct s, res => ∃ e S, res = some (.ct, e, S) ∧ Pl s e S
/-- ends somewhere else than behind -/
def semX (sem : Ω → Res → Prop) : Ω → Res → Prop := fun o res => sem o res ∧ ∀ e S, res ≠ some (.nx, e, S)
def PR (C : σ → Ct) : σ → En → Sto → Prop := fun s env S => Rel (C s) env S
def JG (Φ : List Fs) (Γ : List PyData) (C : Ct) (ss : Ss) (sem : Ω → Res → Prop) (t : Option Ω) : Prop := ∀ env S, Rel C env S → ∀ o, t = some o → sem o (exs Φ Γ ss env S)
def ouK (t : Option (Ou ρ β σ)) (mk : ρ → Ω) (k : σ → Option Ω) : Option Ω := match t with
  | none => none
  | some (.nx s) => k s
  | some (.rt r) => some (mk r)
  | some (.bk _) => none
  | some (.ct _) => none
def ouB (t : Option (Ou ρ β σ)) (k : σ → Option (Ou ρ β τ)) : Option (Ou ρ β τ) := match t with
  | none => none
  | some (.nx s) => k s
  | some (.rt r) => some (.rt r)
  | some (.bk s) => some (.bk s)
  | some (.ct s) => some (.ct s)
def forO (f : α → σ → Option (Ou ρ σ σ)) : List α → σ → Option (Ou ρ Empty σ)
  | [], s => some (.nx s)
  | x :: xs, s => match f x s with
    | none => none
    | some (.nx s') => forO f xs s'
    | some (.ct s') => forO f xs s'
    | some (.bk s') => some (.nx s')
    | some (.rt r) => some (.rt r)
def forN (f : α → σ → Option σ) : List α → σ → Option σ
  | [], s => some s
  | x :: xs, s => match f x s with
    | none => none
    | some s' => forN f xs s'
def whlO (c : σ → Option Bool) (f : σ → Option (Ou ρ σ σ)) : Nat → σ → Option (Ou ρ Empty σ)
  | 0, _ => none
  | n + 1, s => match c s with
    | none => none
    | some false => some (.nx s)
    | some true => match f s with
      | none => none
      | some (.nx s') => whlO c f n s'
      | some (.ct s') => whlO c f n s'
      | some (.bk s') => some (.nx s')
      | some (.rt r) => some (.rt r)
def whlN (c : σ → Option Bool) (f : σ → Option σ) : Nat → σ → Option σ
  | 0, _ => none
  | n + 1, s => match c s with
    | none => none
    | some false => some s
    | some true => match f s with
      | none => none
      | some s' => whlN c f n s'
theorem forN_O (ρ : Type) (f : α → σ → Option σ) : ∀ (xs : List α) (s : σ), forO (ρ := ρ) (fun x s => (f x s).map .nx) xs s = (forN f xs s).map .nx
  | [], s => rfl
  | x :: xs, s => by
    rw [forO, forN]
    cases f x s with
    | none => rfl
    | some s' => exact forN_O ρ f xs s'
theorem whlN_O (ρ : Type) (c : σ → Option Bool) (f : σ → Option σ) : ∀ (n : Nat) (s : σ), whlO (ρ := ρ) c (fun s => (f s).map .nx) n s = (whlN c f n s).map .nx
  | 0, s => rfl
  | n + 1, s => by
    rw [whlO, whlN]
    cases c s with
    | none => rfl
    | some b =>
      cases b with
      | false => rfl
      | true =>
        cases f s with
        | none => rfl
        | some s' => exact whlN_O ρ c f n s'
@[simp] theorem forN_some (g : α → σ → σ) : ∀ (xs : List α) (s : σ), forN (fun x s => some (g x s)) xs s = some (xs.foldl (fun s x => g x s) s)
  | [], s => rfl
  | x :: xs, s => by rw [forN, List.foldl_cons]; exact forN_some g xs _
/-- a fold that keeps to what is known -/
theorem forN_eq {f : α → σ → Option σ} {g : σ → α → σ} (I : List α → σ → Prop) (h : ∀ x xs s, I (x :: xs) s → f x s = some (g s x) ∧ I xs (g s x)) : ∀ (xs : List α) (s : σ), I xs s → forN f xs s = some (xs.foldl g s)
  | [], s, _ => rfl
  | x :: xs, s, hi => by
    obtain ⟨h1, h2⟩ := h x xs s hi
    rw [forN, h1, List.foldl_cons]
    exact forN_eq I h xs _ h2
theorem forN_len {δ : Type} {f : α → List δ → Option (List δ)} {g : List δ → α → List δ} (m : Nat) {ok : α → Prop} (h : ∀ x s, ok x → s.length ≤ 1000000 → f x s = some (g s x)) (hl : ∀ x s, (g s x).length ≤ s.length + m) (xs : List α) (s : List δ) (hx : ∀ x ∈ xs, ok x) (hs : s.length + xs.length * m ≤ 1000000) : forN f xs s = some (xs.foldl g s) := by
  refine forN_eq (fun xs s => (∀ x ∈ xs, ok x) ∧ s.length + xs.length * m ≤ 1000000) (fun x xs s ⟨h1, h2⟩ => ?_) xs s ⟨hx, hs⟩
  rw [List.length_cons, Nat.succ_mul] at h2
  refine ⟨h x s (h1 x (by simp)) (by omega), fun y hy => h1 y (by simp [hy]), ?_⟩
  have := hl x s
  try omega
end
section
variable {Φ : List Fs} {Γ : List PyData} {C : Ct} {α β γ ρ σ τ Ω : Type} {ea : α → PyData} {ss a b : Ss} {sem : Ω → Res → Prop}
theorem JG.of {t t' : Option Ω} (h : JG Φ Γ C ss sem t) (q : t = t') : JG Φ Γ C ss sem t' := q ▸ h
theorem js_wk {c' : List Sl} {t : Option Ω} (w : Wks C.c c') (h : JG Φ Γ ⟨C.B, c'⟩ ss sem t) : JG Φ Γ C ss sem t := fun env S R => h env S (Rel.wk (B := C.B) (c := C.c) R w)
theorem exs_nx {s : Sx} {env e1 : En} {S S1 : Sto} (h : ex Φ Γ s env S = some (.nx, e1, S1)) : exs Φ Γ (.cons s ss) env S = exs Φ Γ ss e1 S1 := by rw [exs, h]
theorem js_nil {o : Ω} (h : ∀ env S, Rel C env S → sem o (some (.nx, env, S))) : JG Φ Γ C .nil sem (some o) := fun env S R o' ho => by
  cases ho
  rw [exs]
  exact h env S R
theorem js_asg {tg : Tg} {e : Ex} {te : Option α} {C' : α → Ct} {k : α → Option Ω} (he : JE Φ Γ C e ea te) (hb : ∀ v, JB Φ Γ C (C' v) tg (.d (ea v))) (hs : ∀ v, JG Φ Γ (C' v) ss sem (k v)) : JG Φ Γ C (.cons (.asg tg e) ss) sem (te.bind k) := fun env S R o ho => by
  cases te with
  | none => cases ho
  | some v =>
    obtain ⟨e1, q1, R1⟩ := hb v env S R
    rw [exs_nx (r_asgt (he env S R v rfl) q1)]
    exact hs v e1 S R1 o ho
theorem js_cpy {i j : Nat} {x : PyData} {t : Option Ω} (h : C.c[j]? = some (.ro x)) (hs : JG Φ Γ ⟨C.B, C.c.set i (.ro x)⟩ ss sem t) : JG Φ Γ C (.cons (.asg (.nm i) (.var j)) ss) sem t := fun env S R o ho => by
  obtain ⟨a, e, R1⟩ := Rel.cpy (B := C.B) (c := C.c) R (i := i) h
  have : ex Φ Γ (.asg (.nm i) (.var j)) env S = some (.nx, env.set i (some a), S) := r_asg (by rw [ev_var, e])
  rw [exs_nx this]
  exact hs _ S R1 o ho
theorem js_new {i : Nat} {e : Ex} {te : Option (List α)} {k : List α → Option Ω} (he : JE Φ Γ C e (eL ea) te) (hs : ∀ v, JG Φ Γ ⟨C.B, C.c.set i (.ow (.lst (v.map ea) false))⟩ ss sem (k v)) : JG Φ Γ C (.cons (.asg (.nm i) (.fresh e)) ss) sem (te.bind k) := fun env S R o ho => by
  cases te with
  | none => cases ho
  | some v =>
    have e1 := he env S R v rfl
    have : ex Φ Γ (.asg (.nm i) (.fresh e)) env S = some (.nx, env.set i (some (.obj S.length)), S ++ [.lst (v.map ea) false]) := r_asg (by rw [ev_fresh, e1]; rfl)
    rw [exs_nx this]
    exact hs v _ _ (Rel.new (B := C.B) (c := C.c) R i _ rfl) o ho
def pshO (xs : List α) (v : α) : Option (List α) := if lowN 16777216 xs.length = true then some (xs ++ [v]) else none
theorem pshO_def (xs : List α) (v : α) : pshO xs v = if xs.length < 16777216 then some (xs ++ [v]) else none := by
  unfold pshO
  refine iteC ?_
  simp only [Bool.and_eq_true, lowN_iff]
  try omega
theorem js_app {i : Nat} {e : Ex} {xs : List α} {te : Option α} {k : List α → Option Ω} (h : C.c[i]? = some (.ow (.lst (xs.map ea) false))) (he : JE Φ Γ C e ea te) (hs : ∀ ys, JG Φ Γ ⟨C.B, C.c.set i (.ow (.lst (List.map ea ys) false))⟩ ss sem (k ys)) : JG Φ Γ C (.cons (.app (.var i) e) ss) sem (te.bind fun v => (pshO xs v).bind k) := fun env S R o ho => by
  cases te with
  | none => cases ho
  | some v =>
    have ho : (pshO xs v).bind k = some o := ho
    rw [pshO_def] at ho
    split at ho
    · rename_i hl
      obtain ⟨q, e1, e2, m⟩ := Rel.mut (B := C.B) (c := C.c) R h
      have ev1 : ev Φ Γ (.var i) env S = some (.obj q, S) := by rw [ev_var, e1]
      have d1 : deref S (.obj q) = some (.list (xs.map ea)) := (deref_obj _ _ _).mpr ⟨_, e2, rfl⟩
      have : ex Φ Γ (.app (.var i) e) env S = some (.nx, env, S.set q (.lst (List.map ea (xs ++ [v])) false)) := by
        rw [ex, ev1]
        simp only [d1, he env S R v rfl, appF, frz_d, e2, List.length_map, hl, if_true, Option.map_some, List.map_append, List.map_cons, List.map_nil]
      rw [exs_nx this]
      exact hs _ _ _ (m _ rfl) o ho
    · cases ho
/-- a, b = .., .. -/
def setAll (c : List Sl) : List (Nat × Sl) → List Sl
  | [] => c
  | p :: ps => setAll (c.set p.1 p.2) ps
def JP (Φ : List Fs) (Γ : List PyData) (C : Ct) (ts : Tgs) (es : Exs) (U : α → List (Nat × Sl)) (t : Option α) : Prop := ∀ env S, Rel C env S → ∀ v, t = some v → ∃ as S', evs Φ Γ es env S = some (as, S') ∧ ∀ c1 env1, Rel ⟨C.B, c1⟩ env1 S → ∃ env2, bnds Φ Γ ts as env1 S' = some (env2, S') ∧ Rel ⟨C.B, setAll c1 (U v)⟩ env2 S'
theorem jp_nil : JP Φ Γ C .nil .nil (fun _ : Unit => []) (some ()) := fun env S R v hv => ⟨[], S, x_evs_nil .., fun c1 env1 R1 => ⟨env1, x_bn .., R1⟩⟩
theorem jp_va {i : Nat} {e : Ex} {ts : Tgs} {es : Exs} {ta : Option α} {tb : Option β} {U : β → List (Nat × Sl)} (h : JE Φ Γ C e ea ta) (hs : JP Φ Γ C ts es U tb) : JP Φ Γ C (.cons (.nm i) ts) (.cons e es) (fun v : α × β => (i, .va (ea v.1)) :: U v.2) (ta.bind fun x => tb.map fun y => (x, y)) := fun env S R v hv => by
  cases ta with
  | none => cases hv
  | some x =>
    cases tb with
    | none => cases hv
    | some y =>
      cases hv
      obtain ⟨as, S', e1, q⟩ := hs env S R y rfl
      refine ⟨.d (ea x) :: as, S', by rw [x_evs_cons, h env S R x rfl]; simp only [e1], fun c1 env1 R1 => ?_⟩
      obtain ⟨env2, q1, R2⟩ := q _ _ (R1.va i (ea x))
      exact ⟨env2, by rw [x_bc, x_bnm]; exact q1, R2⟩
theorem Rel.more {env : En} {S : Sto} (R : Rel C env S) (o : Ob) (ho : o.flat = true) : Rel C env (S ++ [o]) := by
  have R' := Rel.new (B := C.B) (c := C.c ++ [.no]) (env := env ++ [none]) (S := S) ?_ C.c.length o ho
  · obtain ⟨l, p, ρ, inj, ok⟩ := R'
    refine ⟨R.len, p, ρ, fun i j o1 o2 h1 h2 => ?_, fun i s h => ?_⟩
    · have g : ∀ {i : Nat} {s : Sl}, C.c[i]? = some s → ((C.c ++ [Sl.no]).set C.c.length (.ow o))[i]? = some s := fun {i s} h => by
        have hi : i < C.c.length := by
          rcases Nat.lt_or_ge i C.c.length with z | z
          · exact z
          · rw [List.getElem?_eq_none z] at h
            cases h
        rw [List.getElem?_set_ne (by omega), List.getElem?_append_left hi]
        exact h
      exact inj i j o1 o2 (g h1) (g h2)
    · have hi : i < C.c.length := by
        rcases Nat.lt_or_ge i C.c.length with z | z
        · exact z
        · rw [List.getElem?_eq_none z] at h
          cases h
      have g : ∀ {i : Nat} {s : Sl}, C.c[i]? = some s → ((C.c ++ [Sl.no]).set C.c.length (.ow o))[i]? = some s := fun {i s} h => by
        have hi : i < C.c.length := by
          rcases Nat.lt_or_ge i C.c.length with z | z
          · exact z
          · rw [List.getElem?_eq_none z] at h
            cases h
        rw [List.getElem?_set_ne (by omega), List.getElem?_append_left hi]
        exact h
      have q := ok i s (g h)
      rw [List.getElem?_set_ne (by omega), List.getElem?_append_left (by rw [R.len]; exact hi)] at q
      exact q.mono fun k ⟨j, o', e, w⟩ => ⟨j, o', g e, w⟩
  · obtain ⟨l, p, ρ, inj, ok⟩ := R
    have g : ∀ {i : Nat} {s : Sl}, (C.c ++ [Sl.no])[i]? = some s → (C.c[i]? = some s) ∨ s = .no := fun {i s} h => by
      by_cases hi : i < C.c.length
      · rw [List.getElem?_append_left hi] at h
        exact .inl h
      · rw [List.getElem?_append_right (by omega)] at h
        have : i - C.c.length = 0 := by
          rcases Nat.eq_zero_or_pos (i - C.c.length) with z | z
          · exact z
          · rw [List.getElem?_eq_none (by simp; omega)] at h
            cases h
        rw [this] at h
        simp at h
        exact .inr h.symm
    refine ⟨by simpa using l, p, ρ, fun i j o1 o2 h1 h2 => ?_, fun i s h => ?_⟩
    · rcases g h1 with h1 | h1
      · rcases g h2 with h2 | h2
        · exact inj i j o1 o2 h1 h2
        · cases h2
      · cases h1
    · rcases g h with h' | h'
      · have hi : i < C.c.length := by
          rcases Nat.lt_or_ge i C.c.length with z | z
          · exact z
          · rw [List.getElem?_eq_none z] at h'
            cases h'
        have q := ok i s h'
        rw [List.getElem?_append_left (by rw [l]; exact hi)]
        exact q.mono fun k ⟨j, o', e, w⟩ => by
          rcases g e with e | e
          · exact ⟨j, o', e, w⟩
          · cases e
      · subst h'
        trivial
theorem jp_new {i : Nat} {e : Ex} {ts : Tgs} {es : Exs} {ta : Option (List α)} {tb : Option β} {U : β → List (Nat × Sl)} (h : JE Φ Γ C e (eL ea) ta) (hs : JP Φ Γ C ts es U tb) : JP Φ Γ C (.cons (.nm i) ts) (.cons (.fresh e) es) (fun v : List α × β => (i, .ow (.lst (v.1.map ea) false)) :: U v.2) (ta.bind fun x => tb.map fun y => (x, y)) := fun env S R v hv => by
  cases ta with
  | none => cases hv
  | some x =>
    cases tb with
    | none => cases hv
    | some y =>
      cases hv
      obtain ⟨as, S', e1, q⟩ := hs env _ (R.more (.lst (x.map ea) false) rfl) y rfl
      refine ⟨.obj S.length :: as, S', ?_, fun c1 env1 R1 => ?_⟩
      · rw [x_evs_cons, ev_fresh, h env S R x rfl]
        simp only [eL, newOb, e1]
      · obtain ⟨env2, q1, R2⟩ := q _ _ (R1.new i (.lst (x.map ea) false) rfl)
        exact ⟨env2, by rw [x_bc, x_bnm]; exact q1, R2⟩
theorem js_par {ts : Tgs} {es : Exs} {U : α → List (Nat × Sl)} {te : Option α} {k : α → Option Ω} (h : JP Φ Γ C ts es U te) (hs : ∀ v, JG Φ Γ ⟨C.B, setAll C.c (U v)⟩ ss sem (k v)) : JG Φ Γ C (.cons (.par ts es) ss) sem (te.bind k) := fun env S R o ho => by
  cases te with
  | none => cases ho
  | some v =>
    obtain ⟨as, S', e1, q⟩ := h env S R v rfl
    obtain ⟨env2, q1, R2⟩ := q C.c env R
    rw [exs_nx (r_par e1 q1)]
    exact hs v _ _ R2 o ho
/-! ends -/
theorem js_ret {ρ : Type} {er : ρ → PyData} {e : Ex} {te : Option ρ} (he : JE Φ Γ C e er te) : JG Φ Γ C (.cons (.ret e) ss) (semR er fun _ => C.B) te := fun env S R o ho => by
  obtain ⟨X, h1, h2⟩ := R.pre
  have e1 := he env S R o ho
  exact ⟨env, S, X, by rw [r_rt (r_ret e1)], h1, h2⟩
theorem js_retS {ρ β σ : Type} {er : ρ → PyData} {Pl : β → En → Sto → Prop} {P : σ → En → Sto → Prop} {e : Ex} {te : Option ρ} (he : JE Φ Γ C e er te) : JG Φ Γ C (.cons (.ret e) ss) (semS er (fun _ => C.B) Pl P) (te.map .rt) := fun env S R o ho => by
  cases te with
  | none => cases ho
  | some r =>
    cases ho
    obtain ⟨X, h1, h2⟩ := R.pre
    have e1 := he env S R r rfl
    exact ⟨env, S, X, by rw [r_rt (r_ret e1)], h1, h2⟩
theorem semR_notnx {ρ : Type} {er : ρ → PyData} {rb : ρ → Sto} {t : Option ρ} (h : JG Φ Γ C ss (semR er rb) t) : JG Φ Γ C ss (semX (semR er rb)) t := fun env S R o ho => by
  have q := h env S R o ho
  refine ⟨q, fun e S' z => ?_⟩
  obtain ⟨_, _, _, w, _⟩ := q
  rw [z] at w
  cases w
theorem semX_of {t : Option Ω} (h : JG Φ Γ C ss (semX sem) t) : JG Φ Γ C ss sem t := fun env S R o ho => (h env S R o ho).1
theorem js_retX {ρ β σ : Type} {er : ρ → PyData} {Pl : β → En → Sto → Prop} {P : σ → En → Sto → Prop} {e : Ex} {te : Option ρ} (he : JE Φ Γ C e er te) : JG Φ Γ C (.cons (.ret e) ss) (semX (semS er (fun _ => C.B) Pl P)) (te.map .rt) := fun env S R o ho => by
  cases te with
  | none => cases ho
  | some r =>
    refine ⟨js_retS he env S R o ho, fun e1 S1 z => ?_⟩
    rw [r_rt (r_ret (he env S R r rfl))] at z
    cases z
theorem js_brk {ρ β σ : Type} {er : ρ → PyData} {rb : ρ → Sto} {Pl : β → En → Sto → Prop} {P : σ → En → Sto → Prop} {s : β} (h : ∀ env S, Rel C env S → Pl s env S) : JG Φ Γ C (.cons .brk ss) (semX (semS er rb Pl P)) (some (.bk s)) := fun env S R o ho => by
  cases ho
  have : exs Φ Γ (.cons .brk ss) env S = some (.bk, env, S) := r_bk (by rw [ex])
  refine ⟨⟨env, S, this, h env S R⟩, fun e1 S1 z => ?_⟩
  rw [this] at z
  cases z
theorem js_cnt {ρ β σ : Type} {er : ρ → PyData} {rb : ρ → Sto} {Pl : β → En → Sto → Prop} {P : σ → En → Sto → Prop} {s : β} (h : ∀ env S, Rel C env S → Pl s env S) : JG Φ Γ C (.cons .cnt ss) (semX (semS er rb Pl P)) (some (.ct s)) := fun env S R o ho => by
  cases ho
  have : exs Φ Γ (.cons .cnt ss) env S = some (.ct, env, S) := r_ct (by rw [ex])
  refine ⟨⟨env, S, this, h env S R⟩, fun e1 S1 z => ?_⟩
  rw [this] at z
  cases z
theorem js_pas {t : Option Ω} (h : JG Φ Γ C ss sem t) : JG Φ Γ C (.cons .pas ss) sem t := fun env S R o ho => by
  rw [exs_nx (show ex Φ Γ .pas env S = some (.nx, env, S) by rw [ex])]
  exact h env S R o ho
/-! branches -/
theorem ex_ifT {c : Ex} {env : En} {S : Sto} {u : A} {x : Bool} (e : ev Φ Γ c env S = some (u, S)) (d : tru S u = some x) : ex Φ Γ (.ifs c a b) env S = if x = true then exs Φ Γ a env S else exs Φ Γ b env S := by
  rw [ex, r_evv e d]
  cases x <;> rfl
/-- the branch goes away -/
theorem js_ifx {c : Ex} {tc : Option Bool} {ta tk : Option Ω} (hc : JT Φ Γ C c tc) (ha : JG Φ Γ C a (semX sem) ta) (hs : JG Φ Γ C ss sem tk) : JG Φ Γ C (.cons (.ifs c a .nil) ss) sem (tc.bind fun x => if x = true then ta else tk) := fun env S R o ho => by
  cases tc with
  | none => cases ho
  | some x =>
    obtain ⟨u, e1, d1⟩ := hc env S R x rfl
    have h := ex_ifT (a := a) (b := .nil) e1 d1
    have ho : (if x = true then ta else tk) = some o := ho
    cases x with
    | true =>
      have q := ha env S R o ho
      have h : ex Φ Γ (.ifs c a .nil) env S = exs Φ Γ a env S := h
      obtain ⟨q1, q2⟩ := q
      rw [exs, h]
      cases er : exs Φ Γ a env S with
      | none => rw [er] at q1; exact q1
      | some r =>
        obtain ⟨fl, e', S'⟩ := r
        cases fl with
        | nx => exact absurd er (q2 _ _)
        | _ => rw [er] at q1; exact q1
    | false =>
      have h : ex Φ Γ (.ifs c a .nil) env S = some (.nx, env, S) := by rw [h]; simp only [Bool.false_eq_true, if_false]; exact r_nil
      rw [exs_nx h]
      exact hs env S R o ho
/-- .. else .. -/
theorem js_ifxe {c : Ex} {tc : Option Bool} {ta : Option Ω} {tb : Option σ} {C' : σ → Ct} {k : σ → Option Ω} (hc : JT Φ Γ C c tc) (ha : JG Φ Γ C a (semX sem) ta) (hb : JG Φ Γ C b (semN (PR C')) tb) (hs : ∀ s, JG Φ Γ (C' s) ss sem (k s)) : JG Φ Γ C (.cons (.ifs c a b) ss) sem (tc.bind fun x => if x = true then ta else tb.bind k) := fun env S R o ho => by
  cases tc with
  | none => cases ho
  | some x =>
    obtain ⟨u, e1, d1⟩ := hc env S R x rfl
    have h := ex_ifT (a := a) (b := b) e1 d1
    have ho : (if x = true then ta else tb.bind k) = some o := ho
    cases x with
    | true =>
      obtain ⟨q1, q2⟩ := ha env S R o ho
      have h : ex Φ Γ (.ifs c a b) env S = exs Φ Γ a env S := h
      rw [exs, h]
      cases er : exs Φ Γ a env S with
      | none => rw [er] at q1; exact q1
      | some r =>
        obtain ⟨fl, e', S'⟩ := r
        cases fl with
        | nx => exact absurd er (q2 _ _)
        | _ => rw [er] at q1; exact q1
    | false =>
      have h : ex Φ Γ (.ifs c a b) env S = exs Φ Γ b env S := h
      cases tb with
      | none => cases ho
      | some s =>
        obtain ⟨e', S', q1, q2⟩ := hb env S R s rfl
        rw [q1] at h
        rw [exs_nx h]
        exact hs s e' S' q2 o ho
/-- both come together again -/
theorem js_if {c : Ex} {tc : Option Bool} {ta tb : Option σ} {C' : σ → Ct} {k : σ → Option Ω} (hc : JT Φ Γ C c tc) (ha : JG Φ Γ C a (semN (PR C')) ta) (hb : JG Φ Γ C b (semN (PR C')) tb) (hs : ∀ s, JG Φ Γ (C' s) ss sem (k s)) : JG Φ Γ C (.cons (.ifs c a b) ss) sem (tc.bind fun x => (if x = true then ta else tb).bind k) := fun env S R o ho => by
  cases tc with
  | none => cases ho
  | some x =>
    obtain ⟨u, e1, d1⟩ := hc env S R x rfl
    have h := ex_ifT (a := a) (b := b) e1 d1
    have ho : (if x = true then ta else tb).bind k = some o := ho
    have go : ∀ {d : Ss} {td : Option σ}, JG Φ Γ C d (semN (PR C')) td → ex Φ Γ (.ifs c a b) env S = exs Φ Γ d env S → td.bind k = some o → sem o (exs Φ Γ (.cons (.ifs c a b) ss) env S) := fun {d td} hd h ho => by
      cases td with
      | none => cases ho
      | some s =>
        obtain ⟨e', S', q1, q2⟩ := hd env S R s rfl
        rw [q1] at h
        rw [exs_nx h]
        exact hs s e' S' q2 o ho
    cases x with
    | true => exact go ha h ho
    | false => exact go hb h ho
/-- it is the last -/
theorem js_ifl {c : Ex} {tc : Option Bool} {ta tb : Option Ω} (hc : JT Φ Γ C c tc) (ha : JG Φ Γ C a sem ta) (hb : JG Φ Γ C b sem tb) : JG Φ Γ C (.cons (.ifs c a b) .nil) sem (tc.bind fun x => if x = true then ta else tb) := fun env S R o ho => by
  cases tc with
  | none => cases ho
  | some x =>
    obtain ⟨u, e1, d1⟩ := hc env S R x rfl
    have h := ex_ifT (a := a) (b := b) e1 d1
    have ho : (if x = true then ta else tb) = some o := ho
    have go : ∀ {d : Ss} {td : Option Ω}, JG Φ Γ C d sem td → ex Φ Γ (.ifs c a b) env S = exs Φ Γ d env S → td = some o → sem o (exs Φ Γ (.cons (.ifs c a b) .nil) env S) := fun {d td} hd h ho => by
      have q := hd env S R o ho
      rw [exs, h]
      cases er : exs Φ Γ d env S with
      | none => rw [er] at q; exact q
      | some r =>
        obtain ⟨fl, e', S'⟩ := r
        rw [er] at q
        cases fl with
        | nx => simp only [r_nil]; exact q
        | _ => exact q
    cases x with
    | true => exact go ha h ho
    | false => exact go hb h ho
/-- some branch may go away -/
theorem js_ifB {β ρ τ : Type} {er : ρ → PyData} {rb : ρ → Sto} {Pl : β → En → Sto → Prop} {P : τ → En → Sto → Prop} {c : Ex} {tc : Option Bool} {ta tb : Option (Ou ρ β σ)} {C' : σ → Ct} {k : σ → Option (Ou ρ β τ)} (hc : JT Φ Γ C c tc) (ha : JG Φ Γ C a (semS er rb Pl (PR C')) ta) (hb : JG Φ Γ C b (semS er rb Pl (PR C')) tb) (hs : ∀ s, JG Φ Γ (C' s) ss (semS er rb Pl P) (k s)) : JG Φ Γ C (.cons (.ifs c a b) ss) (semS er rb Pl P) (tc.bind fun x => ouB (if x = true then ta else tb) k) := fun env S R o ho => by
  cases tc with
  | none => cases ho
  | some x =>
    obtain ⟨u, e1, d1⟩ := hc env S R x rfl
    have h := ex_ifT (a := a) (b := b) e1 d1
    have ho : ouB (if x = true then ta else tb) k = some o := ho
    have go : ∀ {d : Ss} {td : Option (Ou ρ β σ)}, JG Φ Γ C d (semS er rb Pl (PR C')) td → ex Φ Γ (.ifs c a b) env S = exs Φ Γ d env S → ouB td k = some o → semS er rb Pl P o (exs Φ Γ (.cons (.ifs c a b) ss) env S) := fun {d td} hd h ho => by
      cases td with
      | none => cases ho
      | some w =>
        have q := hd env S R w rfl
        cases w with
        | nx s =>
          obtain ⟨e', S', q1, q2⟩ := q
          rw [q1] at h
          rw [exs_nx h]
          exact hs s e' S' q2 o ho
        | rt r =>
          cases ho
          obtain ⟨e', S', X, q1, q2⟩ := q
          rw [q1] at h
          exact ⟨e', S', X, r_rt h, q2⟩
        | bk s =>
          cases ho
          obtain ⟨e', S', q1, q2⟩ := q
          rw [q1] at h
          exact ⟨e', S', r_bk h, q2⟩
        | ct s =>
          cases ho
          obtain ⟨e', S', q1, q2⟩ := q
          rw [q1] at h
          exact ⟨e', S', r_ct h, q2⟩
    cases x with
    | true => exact go ha h ho
    | false => exact go hb h ho
theorem js_ifK {ρ : Type} {er : ρ → PyData} {rb : ρ → Sto} {c : Ex} {tc : Option Bool} {ta tb : Option (Ou ρ Empty σ)} {C' : σ → Ct} {mk : ρ → Ω} {k : σ → Option Ω} (hmk : ∀ r res, semR er rb r res → sem (mk r) res) (hc : JT Φ Γ C c tc) (ha : JG Φ Γ C a (semS er rb (fun _ _ _ => False) (PR C')) ta) (hb : JG Φ Γ C b (semS er rb (fun _ _ _ => False) (PR C')) tb) (hs : ∀ s, JG Φ Γ (C' s) ss sem (k s)) : JG Φ Γ C (.cons (.ifs c a b) ss) sem (tc.bind fun x => ouK (if x = true then ta else tb) mk k) := fun env S R o ho => by
  cases tc with
  | none => cases ho
  | some x =>
    obtain ⟨u, e1, d1⟩ := hc env S R x rfl
    have h := ex_ifT (a := a) (b := b) e1 d1
    have ho : ouK (if x = true then ta else tb) mk k = some o := ho
    have go : ∀ {d : Ss} {td : Option (Ou ρ Empty σ)}, JG Φ Γ C d (semS er rb (fun _ _ _ => False) (PR C')) td → ex Φ Γ (.ifs c a b) env S = exs Φ Γ d env S → ouK td mk k = some o → sem o (exs Φ Γ (.cons (.ifs c a b) ss) env S) := fun {d td} hd h ho => by
      cases td with
      | none => cases ho
      | some w =>
        have q := hd env S R w rfl
        cases w with
        | nx s =>
          obtain ⟨e', S', q1, q2⟩ := q
          rw [q1] at h
          rw [exs_nx h]
          exact hs s e' S' q2 o ho
        | rt r =>
          cases ho
          obtain ⟨e', S', X, q1, q2⟩ := q
          rw [q1] at h
          exact hmk r _ ⟨e', S', X, r_rt h, q2⟩
        | bk s => exact s.elim
        | ct s => exact s.elim
    cases x with
    | true => exact go ha h ho
    | false => exact go hb h ho
/-! loops -/
theorem Rel.wipeAny {env : En} {S : Sto} (R : Rel C env S) : ∀ (l : List Nat), (∀ i ∈ l, C.c[i]? = some .no) → Rel C (wipeE env l) S
  | [], _ => R
  | i :: is, h => Rel.any (B := C.B) (c := C.c) (R.wipeAny is fun j hj => h j (by simp [hj])) (h i (by simp)) none
def noAll (c : List Sl) : List Nat → Bool
  | [] => true
  | i :: is => (match c[i]? with | some .no => true | _ => false) && noAll c is
theorem noAll_of {c : List Sl} : ∀ {l : List Nat}, noAll c l = true → ∀ i ∈ l, c[i]? = some .no
  | i :: is, h, j, hj => by
    simp only [noAll, Bool.and_eq_true] at h
    rcases List.mem_cons.mp hj with e | hj
    · subst e
      have := h.1
      split at this
      · assumption
      · cases this
    · exact noAll_of h.2 j hj
theorem forL_O {er : ρ → PyData} {rb : ρ → Sto} {ea : α → PyData} {f : α → σ → Option (Ou ρ σ σ)} {L : σ → Ct} {F : PyData → En → Sto → Res} (w : Sto → Bool) (hw : ∀ s env S, Rel (L s) env S → w S = true)
    (h : ∀ x s env S, Rel (L s) env S → ∀ o, f x s = some o → match o with
      | .nx s' => ∃ e' S', F (ea x) env S = some (.nx, e', S') ∧ Rel (L s') e' S'
      | .ct s' => ∃ e' S', F (ea x) env S = some (.ct, e', S') ∧ Rel (L s') e' S'
      | .bk s' => ∃ e' S', F (ea x) env S = some (.bk, e', S') ∧ Rel (L s') e' S'
      | .rt r => ∃ e' S' X, F (ea x) env S = some (.rt (.d (er r)), e', S') ∧ S' = rb r ++ X ∧ X.all Ob.flat = true) : ∀ (xs : List α) (s : σ) (env : En) (S : Sto), Rel (L s) env S → ∀ o, forO f xs s = some o → semS er rb (fun (_ : Empty) _ _ => False) (PR L) o (forL F (xs.map ea) env S)
  | [], s, env, S, R, o, ho => by
    cases ho
    exact ⟨env, S, rfl, R⟩
  | x :: xs, s, env, S, R, o, ho => by
    rw [forO] at ho
    cases e : f x s with
    | none => rw [e] at ho; cases ho
    | some u =>
      rw [e] at ho
      have q := h x s env S R u e
      rw [List.map_cons, forL]
      cases u with
      | nx s' =>
        obtain ⟨e', S', q1, R1⟩ := q
        rw [q1]
        exact forL_O w hw h xs s' e' S' R1 o ho
      | ct s' =>
        obtain ⟨e', S', q1, R1⟩ := q
        rw [q1]
        exact forL_O w hw h xs s' e' S' R1 o ho
      | bk s' =>
        obtain ⟨e', S', q1, R1⟩ := q
        cases ho
        rw [q1]
        exact ⟨e', S', rfl, R1⟩
      | rt r =>
        obtain ⟨e', S', X, q1, R1⟩ := q
        cases ho
        rw [q1]
        exact ⟨e', S', X, rfl, R1⟩
/-- what one turn does -/
theorem fF_turn {er : ρ → PyData} {rb : ρ → Sto} {ea : α → PyData} {f : α → σ → Option (Ou ρ σ σ)} {L : σ → Ct} {C' : α → σ → Ct} {ia : PyData → A} {tg : Tg} {wl : List Nat} {w : Option Nat} {S0 : Sto} (hw : ∀ s env S, Rel (L s) env S → ckB w S0 S = true) (hwl : ∀ s, noAll (L s).c wl = true) (hb : ∀ x s, JB Φ Γ (L s) (C' x s) tg (ia (ea x))) (hf : ∀ x s, JG Φ Γ (C' x s) b (semS er rb (PR L) (PR L)) (f x s)) :
    ∀ x s env S, Rel (L s) env S → ∀ o, f x s = some o → match o with
      | .nx s' => ∃ e' S', watF w S0 (fF Φ Γ ia tg b wl) (ea x) env S = some (.nx, e', S') ∧ Rel (L s') e' S'
      | .ct s' => ∃ e' S', watF w S0 (fF Φ Γ ia tg b wl) (ea x) env S = some (.ct, e', S') ∧ Rel (L s') e' S'
      | .bk s' => ∃ e' S', watF w S0 (fF Φ Γ ia tg b wl) (ea x) env S = some (.bk, e', S') ∧ Rel (L s') e' S'
      | .rt r => ∃ e' S' X, watF w S0 (fF Φ Γ ia tg b wl) (ea x) env S = some (.rt (.d (er r)), e', S') ∧ S' = rb r ++ X ∧ X.all Ob.flat = true := fun x s env S R o ho => by
  obtain ⟨e1, q1, R1⟩ := hb x s env S R
  have q := hf x s e1 S R1 o ho
  have wp : ∀ {s' e' S'}, Rel (L s') e' S' → Rel (L s') (wipeE e' wl) S' := fun {s' e' S'} R => R.wipeAny wl (noAll_of (hwl s'))
  cases o with
  | nx s' =>
    obtain ⟨e', S', q2, R2⟩ := q
    have R2 : Rel (L s') e' S' := R2
    refine ⟨_, S', ?_, wp R2⟩
    unfold watF fF
    simp only [q1, q2, Option.map_some, hw s' _ _ R2, if_true]
  | ct s' =>
    obtain ⟨e', S', q2, R2⟩ := q
    have R2 : Rel (L s') e' S' := R2
    refine ⟨_, S', ?_, wp R2⟩
    unfold watF fF
    simp only [q1, q2, Option.map_some, hw s' _ _ R2, if_true]
  | bk s' =>
    obtain ⟨e', S', q2, R2⟩ := q
    have R2 : Rel (L s') e' S' := R2
    refine ⟨_, S', ?_, wp R2⟩
    unfold watF fF
    simp only [q1, q2, Option.map_some]
  | rt r =>
    obtain ⟨e', S', X, q2, R2⟩ := q
    refine ⟨wipeE e' wl, S', X, ?_, R2⟩
    unfold watF fF
    simp only [q1, q2, Option.map_some]
/-- behind a loop -/
theorem for_end {er : ρ → PyData} {rb : ρ → Sto} {L : σ → Ct} {mk : ρ → Ω} {k : σ → Option Ω} {s : Sx} {env : En} {S : Sto} {u : Option (Ou ρ Empty σ)} (hmk : ∀ r res, semR er rb r res → sem (mk r) res) (hs : ∀ s, JG Φ Γ (L s) ss sem (k s)) (h : ∀ o, u = some o → semS er rb (fun (_ : Empty) _ _ => False) (PR L) o (ex Φ Γ s env S)) (o : Ω) (ho : ouK u mk k = some o) : sem o (exs Φ Γ (.cons s ss) env S) := by
  cases u with
  | none => cases ho
  | some v =>
    have q := h v rfl
    cases v with
    | nx s' =>
      obtain ⟨e', S', q1, R2⟩ := q
      rw [exs_nx q1]
      exact hs s' e' S' R2 o ho
    | rt r =>
      cases ho
      obtain ⟨e', S', X, q1, q2⟩ := q
      exact hmk r _ ⟨e', S', X, r_rt q1, q2⟩
    | bk s => exact s.elim
    | ct s => exact s.elim
theorem js_forO {er : ρ → PyData} {rb : ρ → Sto} {tg : Tg} {it : Itx} {wl : List Nat} {tx : Option (List α)} {L : σ → Ct} {C' : α → σ → Ct} {s0 : σ} {f : α → σ → Option (Ou ρ σ σ)} {mk : ρ → Ω} {k : σ → Option Ω} (hmk : ∀ r res, semR er rb r res → sem (mk r) res) (hi : JI0 Φ Γ C it ea tx) (h0 : Wks C.c (L s0).c) (hB : C.B = (L s0).B) (hwl : ∀ s, noAll (L s).c wl = true) (hb : ∀ x s, JB Φ Γ (L s) (C' x s) tg (itA it (ea x))) (hf : ∀ x s, JG Φ Γ (C' x s) b (semS er rb (PR L) (PR L)) (f x s)) (hs : ∀ s, JG Φ Γ (L s) ss sem (k s)) : JG Φ Γ C (.cons (.for_ tg it b wl) ss) sem (tx.bind fun xs => ouK (forO f xs s0) mk k) := fun env S R o ho => by
  cases tx with
  | none => cases ho
  | some xs =>
    have R0 : Rel (L s0) env S := by
      have := Rel.wk (B := C.B) (c := C.c) R h0
      rwa [hB] at this
    refine for_end (L := L) hmk hs (fun o' ho' => ?_) o ho
    rw [ex_for, hi env S R xs rfl]
    exact forL_O (fun _ => true) (fun _ _ _ _ => rfl) (fF_turn (w := none) (S0 := S) (fun _ _ _ _ => rfl) hwl hb hf) xs s0 env S R0 o' ho'
theorem js_forN {tg : Tg} {it : Itx} {wl : List Nat} {tx : Option (List α)} {L : σ → Ct} {C' : α → σ → Ct} {s0 : σ} {f : α → σ → Option σ} {k : σ → Option Ω} (hi : JI0 Φ Γ C it ea tx) (h0 : Wks C.c (L s0).c) (hB : C.B = (L s0).B) (hwl : ∀ s, noAll (L s).c wl = true) (hb : ∀ x s, JB Φ Γ (L s) (C' x s) tg (itA it (ea x))) (hf : ∀ x s, JG Φ Γ (C' x s) b (semN (PR L)) (f x s)) (hs : ∀ s, JG Φ Γ (L s) ss sem (k s)) : JG Φ Γ C (.cons (.for_ tg it b wl) ss) sem (tx.bind fun xs => (forN f xs s0).bind k) :=
  (js_forO (ρ := Empty) (er := fun r => nomatch r) (rb := fun r => nomatch r) (mk := fun r => nomatch r) (fun r => nomatch r) hi h0 hB hwl hb (f := fun x s => (f x s).map .nx) (fun x s env S R o ho => by
    cases e : f x s with
    | none => rw [e] at ho; cases ho
    | some s' =>
      rw [e] at ho
      cases ho
      exact hf x s env S R s' e) hs).of (by
    cases tx with
    | none => rfl
    | some xs =>
      simp only [Option.bind_some]
      rw [forN_O]
      cases forN f xs s0 <;> rfl)
theorem js_forT {tg : Tg} {it : Itx} {wl : List Nat} {tx : Option (List α)} {L : σ → Ct} {C' : α → σ → Ct} {s0 : σ} {g : α → σ → σ} {k : σ → Option Ω} (hi : JI0 Φ Γ C it ea tx) (h0 : Wks C.c (L s0).c) (hB : C.B = (L s0).B) (hwl : ∀ s, noAll (L s).c wl = true) (hb : ∀ x s, JB Φ Γ (L s) (C' x s) tg (itA it (ea x))) (hf : ∀ x s, JG Φ Γ (C' x s) b (semN (PR L)) (some (g x s))) (hs : ∀ s, JG Φ Γ (L s) ss sem (k s)) : JG Φ Γ C (.cons (.for_ tg it b wl) ss) sem (tx.bind fun xs => k (xs.foldl (fun s x => g x s) s0)) :=
  (js_forN hi h0 hB hwl hb hf hs).of (by cases tx with | none => rfl | some xs => simp)
/-- over a thing of one's own that is only looked at meanwhile -/
theorem js_forOV {er : ρ → PyData} {rb : ρ → Sto} {tg : Tg} {j : Nat} {wl : List Nat} {xs : List α} {L : A → σ → Ct} {C' : A → α → σ → Ct} {s0 : σ} {f : α → σ → Option (Ou ρ σ σ)} {mk : ρ → Ω} {k : σ → Option Ω} (hmk : ∀ r res, semR er rb r res → sem (mk r) res) (hj : C.c[j]? = some (.ro (.list (xs.map ea)))) (h0 : ∀ a, Wks (C.c.set j (.fx a (.list (xs.map ea)))) (L a s0).c) (hB : ∀ a, C.B = (L a s0).B) (hjL : ∀ a s, (L a s).c[j]? = some (.fx a (.list (xs.map ea)))) (hwl : ∀ a s, noAll (L a s).c wl = true) (hb : ∀ a x s, JB Φ Γ (L a s) (C' a x s) tg (.d (ea x))) (hf : ∀ a x s, JG Φ Γ (C' a x s) b (semS er rb (PR (L a)) (PR (L a))) (f x s)) (hs : ∀ a s, JG Φ Γ (L a s) ss sem (k s)) : JG Φ Γ C (.cons (.for_ tg (.seq (.var j)) b wl) ss) sem (ouK (forO f xs s0) mk k) := fun env S R o ho => by
  obtain ⟨a, e1, d1, R1⟩ := Rel.pin (B := C.B) (c := C.c) R hj
  have R0 : Rel (L a s0) env S := by
    have := R1.wk (h0 a)
    rwa [hB a] at this
  obtain ⟨w, e2, _⟩ := seqF_de (.inl d1)
  have hw : ∀ s env' S', Rel (L a s) env' S' → ckB w S S' = true := fun s env' S' R' => by
    cases w with
    | none => rfl
    | some q =>
      have ea' : a = .obj q := by
        cases a with
        | d x => cases x <;> first | (simp [seqF] at e2; done) | (simp only [seqF] at e2; split at e2 <;> simp at e2)
        | obj q' =>
          simp only [seqF] at e2
          split at e2 <;> simp at e2
          rw [e2.2]
        | pr _ _ => cases e2
        | seq _ => cases e2
      subst ea'
      have hc := hjL (.obj q) s
      obtain ⟨_, _, ρ', _, ok⟩ := R'
      obtain ⟨_, l⟩ := ok j _ hc
      rcases l with l | ⟨q', l1, _, l3, _⟩
      · cases l
      · cases l1
        simp only [ckB, l3, d1, decide_true]
  refine for_end (L := L a) hmk (hs a) (fun o' ho' => ?_) o ho
  have ei : evI Φ Γ (.seq (.var j)) env S = some (xs.map ea, w, S) := by
    rw [x_seq, ev_var, e1]
    simp only [e2, Option.map_some]
  rw [ex_for, ei]
  exact forL_O (fun _ => true) (fun _ _ _ _ => rfl) (fF_turn hw (hwl a) (hb a) (hf a)) xs s0 env S R0 o' ho'
theorem js_forNV {tg : Tg} {j : Nat} {wl : List Nat} {xs : List α} {L : A → σ → Ct} {C' : A → α → σ → Ct} {s0 : σ} {f : α → σ → Option σ} {k : σ → Option Ω} (hj : C.c[j]? = some (.ro (.list (xs.map ea)))) (h0 : ∀ a, Wks (C.c.set j (.fx a (.list (xs.map ea)))) (L a s0).c) (hB : ∀ a, C.B = (L a s0).B) (hjL : ∀ a s, (L a s).c[j]? = some (.fx a (.list (xs.map ea)))) (hwl : ∀ a s, noAll (L a s).c wl = true) (hb : ∀ a x s, JB Φ Γ (L a s) (C' a x s) tg (.d (ea x))) (hf : ∀ a x s, JG Φ Γ (C' a x s) b (semN (PR (L a))) (f x s)) (hs : ∀ a s, JG Φ Γ (L a s) ss sem (k s)) : JG Φ Γ C (.cons (.for_ tg (.seq (.var j)) b wl) ss) sem ((forN f xs s0).bind k) :=
  (js_forOV (ρ := Empty) (er := fun r => nomatch r) (rb := fun r => nomatch r) (mk := fun r => nomatch r) (fun r => nomatch r) hj h0 hB hjL hwl hb (f := fun x s => (f x s).map .nx) (fun a x s env S R o ho => by
    cases e : f x s with
    | none => rw [e] at ho; cases ho
    | some s' =>
      rw [e] at ho
      cases ho
      exact hf a x s env S R s' e) hs).of (by
      rw [forN_O]
      cases forN f xs s0 <;> rfl)
theorem js_forTV {tg : Tg} {j : Nat} {wl : List Nat} {xs : List α} {L : A → σ → Ct} {C' : A → α → σ → Ct} {s0 : σ} {g : α → σ → σ} {k : σ → Option Ω} (hj : C.c[j]? = some (.ro (.list (xs.map ea)))) (h0 : ∀ a, Wks (C.c.set j (.fx a (.list (xs.map ea)))) (L a s0).c) (hB : ∀ a, C.B = (L a s0).B) (hjL : ∀ a s, (L a s).c[j]? = some (.fx a (.list (xs.map ea)))) (hwl : ∀ a s, noAll (L a s).c wl = true) (hb : ∀ a x s, JB Φ Γ (L a s) (C' a x s) tg (.d (ea x))) (hf : ∀ a x s, JG Φ Γ (C' a x s) b (semN (PR (L a))) (some (g x s))) (hs : ∀ a s, JG Φ Γ (L a s) ss sem (k s)) : JG Φ Γ C (.cons (.for_ tg (.seq (.var j)) b wl) ss) sem (k (xs.foldl (fun s x => g x s) s0)) :=
  (js_forNV hj h0 hB hjL hwl hb hf hs).of (by simp)
/-- while -/
theorem whlL_O {er : ρ → PyData} {rb : ρ → Sto} {c : σ → Option Bool} {f : σ → Option (Ou ρ σ σ)} {L : σ → Ct} {tt : Ex} {wl : List Nat} (hwl : ∀ s, noAll (L s).c wl = true) (hc : ∀ s, JT Φ Γ (L s) tt (c s)) (hf : ∀ s, JG Φ Γ (L s) b (semS er rb (PR L) (PR L)) (f s)) : ∀ (n : Nat) (s : σ) (env : En) (S : Sto), Rel (L s) env S → ∀ o, whlO c f n s = some o → semS er rb (fun (_ : Empty) _ _ => False) (PR L) o (whlL (evT Φ Γ tt) (wF Φ Γ b wl) n env S)
  | 0, s, env, S, R, o, ho => by cases ho
  | n + 1, s, env, S, R, o, ho => by
    rw [whlO] at ho
    have wp : ∀ {s' e' S'}, Rel (L s') e' S' → Rel (L s') (wipeE e' wl) S' := fun {s' e' S'} R => R.wipeAny wl (noAll_of (hwl s'))
    cases ec : c s with
    | none => rw [ec] at ho; cases ho
    | some x =>
      rw [ec] at ho
      obtain ⟨u, e1, d1⟩ := hc s env S R x ec
      rw [whlL, r_evv e1 d1]
      cases x with
      | false =>
        cases ho
        exact ⟨env, S, rfl, R⟩
      | true =>
        simp only at ho ⊢
        cases ef : f s with
        | none => rw [ef] at ho; cases ho
        | some v =>
          rw [ef] at ho
          have q := hf s env S R v ef
          cases v with
          | nx s' =>
            obtain ⟨e', S', q1, R1⟩ := q
            unfold wF
            simp only [q1, Option.map_some]
            exact whlL_O hwl hc hf n s' _ S' (wp R1) o ho
          | ct s' =>
            obtain ⟨e', S', q1, R1⟩ := q
            unfold wF
            simp only [q1, Option.map_some]
            exact whlL_O hwl hc hf n s' _ S' (wp R1) o ho
          | bk s' =>
            obtain ⟨e', S', q1, R1⟩ := q
            cases ho
            unfold wF
            simp only [q1, Option.map_some]
            exact ⟨_, S', rfl, wp R1⟩
          | rt r =>
            obtain ⟨e', S', X, q1, R1⟩ := q
            cases ho
            unfold wF
            simp only [q1, Option.map_some]
            exact ⟨_, S', X, rfl, R1⟩
theorem js_whlO {er : ρ → PyData} {rb : ρ → Sto} {n : Nat} {tt : Ex} {wl : List Nat} {L : σ → Ct} {s0 : σ} {c : σ → Option Bool} {f : σ → Option (Ou ρ σ σ)} {mk : ρ → Ω} {k : σ → Option Ω} (hmk : ∀ r res, semR er rb r res → sem (mk r) res) (h0 : Wks C.c (L s0).c) (hB : C.B = (L s0).B) (hwl : ∀ s, noAll (L s).c wl = true) (hc : ∀ s, JT Φ Γ (L s) tt (c s)) (hf : ∀ s, JG Φ Γ (L s) b (semS er rb (PR L) (PR L)) (f s)) (hs : ∀ s, JG Φ Γ (L s) ss sem (k s)) : JG Φ Γ C (.cons (.whl n tt b wl) ss) sem (ouK (whlO c f n s0) mk k) := fun env S R o ho => by
  have R0 : Rel (L s0) env S := by
    have := Rel.wk (B := C.B) (c := C.c) R h0
    rwa [hB] at this
  refine for_end (L := L) hmk hs (fun o' ho' => ?_) o ho
  rw [ex_whl]
  exact whlL_O hwl hc hf n s0 env S R0 o' ho'
theorem js_whlN {n : Nat} {tt : Ex} {wl : List Nat} {L : σ → Ct} {s0 : σ} {c : σ → Option Bool} {f : σ → Option σ} {k : σ → Option Ω} (h0 : Wks C.c (L s0).c) (hB : C.B = (L s0).B) (hwl : ∀ s, noAll (L s).c wl = true) (hc : ∀ s, JT Φ Γ (L s) tt (c s)) (hf : ∀ s, JG Φ Γ (L s) b (semN (PR L)) (f s)) (hs : ∀ s, JG Φ Γ (L s) ss sem (k s)) : JG Φ Γ C (.cons (.whl n tt b wl) ss) sem ((whlN c f n s0).bind k) :=
  (js_whlO (ρ := Empty) (er := fun r => nomatch r) (rb := fun r => nomatch r) (mk := fun r => nomatch r) (fun r => nomatch r) h0 hB hwl hc (f := fun s => (f s).map .nx) (fun s env S R o ho => by
    cases e : f s with
    | none => rw [e] at ho; cases ho
    | some s' =>
      rw [e] at ho
      cases ho
      exact hf s env S R s' e) hs).of (by
      rw [whlN_O]
      cases whlN c f n s0 <;> rfl)
end
/-! a def -/
def startC (B : Sto) (ps : List (Bool × PyData)) (n : Nat) : Ct := ⟨B, ps.map (fun p => if p.1 = true then .va p.2 else .pv p.2) ++ List.replicate (n - ps.length) .no⟩
theorem ago_len {S : Sto} : ∀ {as : List A} {ps : List (Bool × PyData)}, AgO S as ps → as.length = ps.length
  | [], [], _ => rfl
  | _ :: as, _ :: ps, h => by rw [List.length_cons, List.length_cons, ago_len h.2]
  | [], _ :: _, h => h.elim
  | _ :: _, [], h => h.elim
theorem ago_get {S : Sto} : ∀ {as : List A} {ps : List (Bool × PyData)}, AgO S as ps → ∀ {i : Nat} {p : Bool × PyData}, ps[i]? = some p → ∃ a, as[i]? = some a ∧ (if p.1 = true then a = .d p.2 else deref S a = some p.2)
  | [], [], _, i, p, e => by simp at e
  | a :: as, q :: ps, h, 0, p, e => by
    simp at e
    subst e
    exact ⟨a, rfl, h.1⟩
  | _ :: as, _ :: ps, h, i + 1, p, e => ago_get h.2 (i := i) (by simpa using e)
  | [], _ :: _, h, _, _, _ => h.elim
  | _ :: _, [], h, _, _, _ => h.elim
theorem start_rel {S : Sto} {as : List A} {ps : List (Bool × PyData)} {n : Nat} (h : AgO S as ps) : Rel (startC S ps n) (as.map some ++ List.replicate (n - as.length) none) S := by
  have hl := ago_len h
  have now : ∀ {i : Nat} {o : Ob}, (startC S ps n).c[i]? = some (.ow o) → False := fun {i o} e => by
    have := List.mem_of_getElem? e
    rcases List.mem_append.mp this with z | z
    · obtain ⟨p, _, q⟩ := List.mem_map.mp z
      split at q <;> cases q
    · cases (List.mem_replicate.mp z).2
  refine ⟨by simp [startC, hl], ⟨[], by simp [startC], rfl⟩, fun _ => 0, fun i j o o' e => (now e).elim, fun i s e => ?_⟩
  unfold startC at e
  simp only at e
  by_cases hi : i < ps.length
  · rw [List.getElem?_append_left (by simpa using hi), List.getElem?_map] at e
    cases ep : ps[i]? with
    | none => rw [ep] at e; cases e
    | some p =>
      rw [ep] at e
      obtain ⟨a, e1, q⟩ := ago_get h ep
      have eu : (as.map some ++ List.replicate (n - as.length) none)[i]?.join = some a := by
        rw [List.getElem?_append_left (by simp; omega), List.getElem?_map, e1]
        rfl
      rw [eu]
      simp only [Option.map_some, Option.some.injEq] at e
      split at e
      · rename_i hp
        rw [if_pos hp] at q
        subst e
        exact congrArg some q
      · rename_i hp
        rw [if_neg hp] at q
        subst e
        exact ⟨a, rfl, q⟩
  · rw [List.getElem?_append_right (by simpa using hi)] at e
    have := (List.mem_replicate.mp (List.mem_of_getElem? e)).2
    subst this
    trivial
theorem fn_of {Φ : List Fs} {Γ : List PyData} {i n : Nat} {b : Ss} {Φ' : List Fs} {α γ : Type} {pk : α → List (Bool × PyData)} {F : α → Option γ} {ec : γ → PyData} (h1 : Φ'[i]? = some (run Φ Γ n b)) (h : ∀ S v, S.all Ob.flat = true → JG Φ Γ (startC S (pk v) n) b (semR ec fun _ => S) (F v)) : FnT Φ' i pk F ec := by
  refine ⟨_, h1, fun S as v r hS ag hr => ?_⟩
  obtain ⟨e, S', X, q1, q2, q3⟩ := h S v hS _ S (start_rel ag) r hr
  refine ⟨X, q3, ?_⟩
  unfold run
  rw [q1, q2]
end PV

/-! PT4: what the operators do with typed things. -/
namespace PV
open PySem PySem.Spec PyProof.Rows L2
/-- texts -/
structure SO where
  s : Str
  ok : PyData.strOk s = true
  deriving DecidableEq
theorem SO.ext' {x y : SO} (h : x.s = y.s) : x = y := by
  cases x
  cases y
  cases h
  rfl
def sl (x : Str) (h : PyData.strOk x = true) : SO := ⟨x, h⟩
/-- it is there -/
def inB {α : Type} [DecidableEq α] (x : α) (xs : List α) : Bool := decide (x ∈ xs)
@[simp] theorem inB_iff {α : Type} [DecidableEq α] {x : α} {xs : List α} : inB x xs = true ↔ x ∈ xs := by simp [inB]
@[simp] theorem inB_not {α : Type} [DecidableEq α] {x : α} {xs : List α} : inB x xs = false ↔ x ∉ xs := by simp [inB]
def eT1 : SO → PyData := fun x => .str x.1
/-- they can be held for alike -/
structure EqT {α : Type} [DecidableEq α] (e : α → PyData) (d : Nat) : Prop where
  eqv : ∀ x y, PyData.eqv (e x) (e y) = decide (x = y)
  lay : ∀ x, (e x).canLay0 = true
  dep : ∀ x, (e x).depth ≤ d
/-- they are ordered -/
structure LtT {α : Type} (e : α → PyData) (lt : α → α → Bool) (d : Nat) : Prop where
  val : ∀ x y, ltB (e x) (e y) = lt x y
  irr : ∀ x, lt x x = false
  ali : ∀ x y, PySem.W.alike (e x) (e y) = true
  noD : ∀ x, noDic (e x) = true
  nn : ∀ x, notNone (e x) = true
  dep : ∀ x, (e x).depth ≤ d
section
variable {α β γ δ ε ζ : Type} [DecidableEq α] [DecidableEq β] [DecidableEq γ] [DecidableEq δ] [DecidableEq ε]
variable {a : α → PyData} {b : β → PyData} {c : γ → PyData} {e : δ → PyData} {f : ε → PyData}
theorem eq_I : EqT eI 0 := ⟨fun x y => by rw [Bool.eq_iff_iff]; simp [eI, PyData.eqv], fun _ => rfl, fun _ => Nat.le_refl _⟩
theorem eq_S : EqT eT1 0 := ⟨fun x y => by rw [Bool.eq_iff_iff]; simp [eT1, PyData.eqv]; exact ⟨SO.ext', fun h => by rw [h]⟩, fun x => x.2, fun _ => Nat.le_refl _⟩
theorem eq_B : EqT eB 0 := ⟨fun x y => by cases x <;> cases y <;> rfl, fun _ => rfl, fun _ => Nat.le_refl _⟩
theorem eq_E : EqT eE 1 := ⟨fun x y => rfl, fun _ => rfl, fun _ => Nat.le_refl _⟩
theorem eqv_none {d : Nat} (h : EqT a d) (nn : ∀ v, notNone (a v) = true) (v : α) : PyData.eqv .none (a v) = false ∧ PyData.eqv (a v) .none = false := by
  have := nn v
  cases hv : a v <;> first | (rw [hv] at this; cases this; done) | exact ⟨rfl, rfl⟩
theorem eq_O {d : Nat} (h : EqT a d) (nn : ∀ v, notNone (a v) = true) : EqT (eO a) d := ⟨fun x y => by
  cases x with
  | none => cases y with
    | none => rfl
    | some y => simpa [eO] using (eqv_none h nn y).1
  | some x => cases y with
    | none => simpa [eO] using (eqv_none h nn x).2
    | some y => simpa [eO] using h.eqv x y, fun x => by cases x with | none => rfl | some x => exact h.lay x, fun x => by cases x with | none => exact Nat.zero_le _ | some x => exact h.dep x⟩
theorem eqvAll_map {d : Nat} (h : EqT a d) : ∀ xs ys : List α, PyData.eqvAll (xs.map a) (ys.map a) = decide (xs = ys)
  | [], [] => rfl
  | [], _ :: _ => rfl
  | _ :: _, [] => rfl
  | x :: xs, y :: ys => by
    rw [List.map_cons, List.map_cons, PyData.eqvAll, eqvAll_map h xs ys, h.eqv]
    rw [Bool.eq_iff_iff]
    simp
theorem layAll_map {d : Nat} (h : EqT a d) : ∀ xs : List α, PyData.canLayAll0 (xs.map a) = true
  | [] => rfl
  | x :: xs => by rw [List.map_cons, PyData.canLayAll0, h.lay, layAll_map h xs]; rfl
omit [DecidableEq α] in
theorem depAll_map {d : Nat} (h : ∀ x, (a x).depth ≤ d) : ∀ xs : List α, PyData.depthAll (xs.map a) ≤ d
  | [] => Nat.zero_le _
  | x :: xs => by
    rw [List.map_cons, PyData.depthAll]
    exact Nat.max_le.mpr ⟨h x, depAll_map h xs⟩
theorem eq_L {d : Nat} (h : EqT a d) : EqT (eL a) (d + 1) := ⟨fun x y => by rw [eL, eL, PyData.eqv]; exact eqvAll_map h x y, fun x => by rw [eL, PyData.canLay0]; exact layAll_map h x, fun x => by rw [eL, PyData.depth]; exact Nat.succ_le_succ (depAll_map h.dep x)⟩
theorem eq_T {d : Nat} (h : EqT a d) : EqT (eT a) (d + 1) := ⟨fun x y => by rw [eT, eT, PyData.eqv]; exact eqvAll_map h x y, fun x => by rw [eT, PyData.canLay0]; exact layAll_map h x, fun x => by rw [eT, PyData.depth]; exact Nat.succ_le_succ (depAll_map h.dep x)⟩
theorem eq_P1 {d : Nat} (h : EqT a d) : EqT (eP1 a) (d + 1) := ⟨fun x y => by simp [eP1, PyData.eqv, PyData.eqvAll, h.eqv], fun x => by simp [eP1, PyData.canLay0, PyData.canLayAll0, h.lay], fun x => by have := h.dep x; simp [eP1, PyData.depth, PyData.depthAll]; omega⟩
theorem eq_P2 {d d2 : Nat} (h : EqT a d) (h2 : EqT b d2) : EqT (eP2 a b) (max d d2 + 1) := ⟨fun x y => by
  rw [Bool.eq_iff_iff]; simp [eP2, PyData.eqv, PyData.eqvAll, h.eqv, h2.eqv, Prod.ext_iff], fun x => by simp [eP2, PyData.canLay0, PyData.canLayAll0, h.lay, h2.lay], fun x => by have := h.dep x.1; have := h2.dep x.2; simp only [eP2, PyData.depth, PyData.depthAll]; omega⟩
theorem eq_P3 {d d2 d3 : Nat} (h : EqT a d) (h2 : EqT b d2) (h3 : EqT c d3) : EqT (eP3 a b c) (max d (max d2 d3) + 1) := ⟨fun x y => by
  rw [Bool.eq_iff_iff]; simp [eP3, PyData.eqv, PyData.eqvAll, h.eqv, h2.eqv, h3.eqv, Prod.ext_iff], fun x => by simp [eP3, PyData.canLay0, PyData.canLayAll0, h.lay, h2.lay, h3.lay], fun x => by have := h.dep x.1; have := h2.dep x.2.1; have := h3.dep x.2.2; simp only [eP3, PyData.depth, PyData.depthAll]; omega⟩
theorem eq_P4 {d d2 d3 d4 : Nat} (h : EqT a d) (h2 : EqT b d2) (h3 : EqT c d3) (h4 : EqT e d4) : EqT (eP4 a b c e) (max d (max d2 (max d3 d4)) + 1) := ⟨fun x y => by
  rw [Bool.eq_iff_iff]; simp [eP4, PyData.eqv, PyData.eqvAll, h.eqv, h2.eqv, h3.eqv, h4.eqv, Prod.ext_iff], fun x => by simp [eP4, PyData.canLay0, PyData.canLayAll0, h.lay, h2.lay, h3.lay, h4.lay], fun x => by have := h.dep x.1; have := h2.dep x.2.1; have := h3.dep x.2.2.1; have := h4.dep x.2.2.2; simp only [eP4, PyData.depth, PyData.depthAll]; omega⟩
theorem eq_P5 {d d2 d3 d4 d5 : Nat} (h : EqT a d) (h2 : EqT b d2) (h3 : EqT c d3) (h4 : EqT e d4) (h5 : EqT f d5) : EqT (eP5 a b c e f) (max d (max d2 (max d3 (max d4 d5))) + 1) := ⟨fun x y => by
  rw [Bool.eq_iff_iff]; simp [eP5, PyData.eqv, PyData.eqvAll, h.eqv, h2.eqv, h3.eqv, h4.eqv, h5.eqv, Prod.ext_iff], fun x => by simp [eP5, PyData.canLay0, PyData.canLayAll0, h.lay, h2.lay, h3.lay, h4.lay, h5.lay], fun x => by have := h.dep x.1; have := h2.dep x.2.1; have := h3.dep x.2.2.1; have := h4.dep x.2.2.2.1; have := h5.dep x.2.2.2.2; simp only [eP5, PyData.depth, PyData.depthAll]; omega⟩
/-! orders -/
def ltI (x y : Int) : Bool := decide (x < y)
def ltS (x y : SO) : Bool := decide (x.1.cps.toList < y.1.cps.toList)
def ltP2 (l1 : α → α → Bool) (l2 : β → β → Bool) (x y : α × β) : Bool := if x.1 = y.1 then l2 x.2 y.2 else l1 x.1 y.1
def ltP3 (l1 : α → α → Bool) (l2 : β → β → Bool) (l3 : γ → γ → Bool) (x y : α × β × γ) : Bool := if x.1 = y.1 then (if x.2.1 = y.2.1 then l3 x.2.2 y.2.2 else l2 x.2.1 y.2.1) else l1 x.1 y.1
def ltP4 (l1 : α → α → Bool) (l2 : β → β → Bool) (l3 : γ → γ → Bool) (l4 : δ → δ → Bool) (x y : α × β × γ × δ) : Bool := if x.1 = y.1 then (if x.2.1 = y.2.1 then (if x.2.2.1 = y.2.2.1 then l4 x.2.2.2 y.2.2.2 else l3 x.2.2.1 y.2.2.1) else l2 x.2.1 y.2.1) else l1 x.1 y.1
def ltL (l : α → α → Bool) : List α → List α → Bool
  | [], [] => false
  | [], _ :: _ => true
  | _ :: _, [] => false
  | x :: xs, y :: ys => if x = y then ltL l xs ys else l x y
theorem lt_I : LtT eI ltI 0 := ⟨fun _ _ => rfl, fun x => by simp [ltI], fun _ _ => rfl, fun _ => rfl, fun _ => rfl, fun _ => Nat.le_refl _⟩
theorem lt_S : LtT eT1 ltS 0 := ⟨fun _ _ => rfl, fun x => by simp [ltS, List.lt_irrefl], fun _ _ => rfl, fun _ => rfl, fun _ => rfl, fun _ => Nat.le_refl _⟩
variable {l1 : α → α → Bool} {l2 : β → β → Bool} {l3 : γ → γ → Bool} {l4 : δ → δ → Bool}
theorem lt_P1 {d d' : Nat} (h : LtT a l1 d) (q : EqT a d') : LtT (eP1 a) l1 (d + 1) := ⟨fun x y => by
  simp only [eP1, ltB, ltBs, q.eqv, h.val, List.isEmpty_nil, Bool.not_true]
  by_cases e : x = y
  · subst e; simp [h.irr]
  · simp [e], h.irr, fun x y => by simp [eP1, PySem.W.alike, PySem.W.alikeAll, h.ali], fun x => by simp [eP1, noDic, noDics, h.noD], fun _ => rfl, fun x => by have := h.dep x; simp only [eP1, PyData.depth, PyData.depthAll]; omega⟩
theorem lt_P2 {d d2 d' d2' : Nat} (h : LtT a l1 d) (q : EqT a d') (h2 : LtT b l2 d2) (q2 : EqT b d2') : LtT (eP2 a b) (ltP2 l1 l2) (max d d2 + 1) := ⟨fun x y => by
  simp only [eP2, ltP2, ltB, ltBs, q.eqv, q2.eqv, h.val, h2.val, List.isEmpty_nil, Bool.not_true, decide_eq_true_eq]
  by_cases e2 : x.2 = y.2
  · simp [e2, h2.irr]
  · simp [e2], fun x => by simp [ltP2, h2.irr], fun x y => by simp [eP2, PySem.W.alike, PySem.W.alikeAll, h.ali, h2.ali], fun x => by simp [eP2, noDic, noDics, h.noD, h2.noD], fun _ => rfl, fun x => by have := h.dep x.1; have := h2.dep x.2; simp only [eP2, PyData.depth, PyData.depthAll]; omega⟩
theorem lt_P3 {d d2 d3 d' d2' d3' : Nat} (h : LtT a l1 d) (q : EqT a d') (h2 : LtT b l2 d2) (q2 : EqT b d2') (h3 : LtT c l3 d3) (q3 : EqT c d3') : LtT (eP3 a b c) (ltP3 l1 l2 l3) (max d (max d2 d3) + 1) := ⟨fun x y => by
  simp only [eP3, ltP3, ltB, ltBs, q.eqv, q2.eqv, q3.eqv, h.val, h2.val, h3.val, List.isEmpty_nil, Bool.not_true, decide_eq_true_eq]
  by_cases e2 : x.2.2 = y.2.2
  · simp [e2, h3.irr]
  · simp [e2], fun x => by simp [ltP3, h3.irr], fun x y => by simp [eP3, PySem.W.alike, PySem.W.alikeAll, h.ali, h2.ali, h3.ali], fun x => by simp [eP3, noDic, noDics, h.noD, h2.noD, h3.noD], fun _ => rfl, fun x => by have := h.dep x.1; have := h2.dep x.2.1; have := h3.dep x.2.2; simp only [eP3, PyData.depth, PyData.depthAll]; omega⟩
theorem lt_P4 {d d2 d3 d4 d' d2' d3' d4' : Nat} (h : LtT a l1 d) (q : EqT a d') (h2 : LtT b l2 d2) (q2 : EqT b d2') (h3 : LtT c l3 d3) (q3 : EqT c d3') (h4 : LtT e l4 d4) (q4 : EqT e d4') : LtT (eP4 a b c e) (ltP4 l1 l2 l3 l4) (max d (max d2 (max d3 d4)) + 1) := ⟨fun x y => by
  simp only [eP4, ltP4, ltB, ltBs, q.eqv, q2.eqv, q3.eqv, q4.eqv, h.val, h2.val, h3.val, h4.val, List.isEmpty_nil, Bool.not_true, decide_eq_true_eq]
  by_cases e2 : x.2.2.2 = y.2.2.2
  · simp [e2, h4.irr]
  · simp [e2], fun x => by simp [ltP4, h4.irr], fun x y => by simp [eP4, PySem.W.alike, PySem.W.alikeAll, h.ali, h2.ali, h3.ali, h4.ali], fun x => by simp [eP4, noDic, noDics, h.noD, h2.noD, h3.noD, h4.noD], fun _ => rfl, fun x => by have := h.dep x.1; have := h2.dep x.2.1; have := h3.dep x.2.2.1; have := h4.dep x.2.2.2; simp only [eP4, PyData.depth, PyData.depthAll]; omega⟩
theorem ltBs_map {d d' : Nat} (h : LtT a l1 d) (q : EqT a d') : ∀ xs ys : List α, ltBs (xs.map a) (ys.map a) = ltL l1 xs ys
  | [], [] => rfl
  | [], _ :: _ => rfl
  | _ :: _, [] => rfl
  | x :: xs, y :: ys => by
    rw [List.map_cons, List.map_cons, ltBs, ltL, ltBs_map h q xs ys, q.eqv, h.val]
    simp
theorem ltL_irr (h : ∀ x, l1 x x = false) : ∀ xs : List α, ltL l1 xs xs = false
  | [] => rfl
  | x :: xs => by rw [ltL, if_pos rfl]; exact ltL_irr h xs
omit [DecidableEq α] in
theorem alikeAll_map (h : ∀ x y, PySem.W.alike (a x) (a y) = true) : ∀ xs ys : List α, PySem.W.alikeAll (xs.map a) (ys.map a) = true
  | [], _ => by simp [PySem.W.alikeAll]
  | _ :: _, [] => by simp [PySem.W.alikeAll]
  | x :: xs, y :: ys => by rw [List.map_cons, List.map_cons, PySem.W.alikeAll, h, alikeAll_map h xs ys]; rfl
omit [DecidableEq α] in
theorem noDics_map (h : ∀ x, noDic (a x) = true) : ∀ xs : List α, noDics (xs.map a) = true
  | [] => rfl
  | x :: xs => by rw [List.map_cons, noDics, h, noDics_map h xs]; rfl
theorem lt_T {d d' : Nat} (h : LtT a l1 d) (q : EqT a d') : LtT (eT a) (ltL l1) (d + 1) := ⟨fun x y => by rw [eT, eT, ltB]; exact ltBs_map h q x y, ltL_irr h.irr, fun x y => by rw [eT, eT, PySem.W.alike]; exact alikeAll_map h.ali x y, fun x => by rw [eT, noDic]; exact noDics_map h.noD x, fun _ => rfl, fun x => by rw [eT, PyData.depth]; exact Nat.succ_le_succ (depAll_map h.dep x)⟩
theorem lt_L {d d' : Nat} (h : LtT a l1 d) (q : EqT a d') : LtT (eL a) (ltL l1) (d + 1) := ⟨fun x y => by rw [eL, eL, ltB]; exact ltBs_map h q x y, ltL_irr h.irr, fun x y => by rw [eL, eL, PySem.W.alike]; exact alikeAll_map h.ali x y, fun x => by rw [eL, noDic]; exact noDics_map h.noD x, fun _ => rfl, fun x => by rw [eL, PyData.depth]; exact Nat.succ_le_succ (depAll_map h.dep x)⟩
end
/-! the operators -/
section
variable {α β γ : Type} {a : α → PyData} {b : β → PyData}
theorem shaped_of [DecidableEq α] {d : Nat} (h : EqT a d) (hd : d ≤ 64) (x : α) : SeqAt.shaped (a x) = true := by
  unfold SeqAt.shaped
  rw [h.lay]
  simpa using Nat.le_trans (h.dep x) hd
theorem o_eq [DecidableEq α] {d : Nat} (h : EqT a d) (hd : d ≤ 64) (x y : α) : cmpD .Eq (a x) (a y) = some (decide (x = y)) := by
  show eqvD _ _ = _
  unfold eqvD okEq
  rw [shaped_of h hd, shaped_of h hd, h.eqv]
  simp
theorem o_ne [DecidableEq α] {d : Nat} (h : EqT a d) (hd : d ≤ 64) (x y : α) : cmpD .NotEq (a x) (a y) = some (!decide (x = y)) := by
  have := o_eq h hd x y
  show (eqvD _ _).map _ = _
  have e : eqvD (a x) (a y) = some (decide (x = y)) := this
  rw [e]
  rfl
theorem o_ltD {l : α → α → Bool} {d : Nat} (h : LtT a l d) (hd : d ≤ 32) (x y : α) : ltD (a x) (a y) = some (l x y) := by
  unfold ltD okLt
  rw [h.ali, h.noD, h.noD, h.nn, h.val]
  simpa using Nat.le_trans (h.dep x) hd
theorem o_lt {l : α → α → Bool} {d : Nat} (h : LtT a l d) (hd : d ≤ 32) (x y : α) : cmpD .Lt (a x) (a y) = some (l x y) := o_ltD h hd x y
theorem o_ltI (x y : Int) : cmpD .Lt (eI x) (eI y) = some (decide (x < y)) := ltD_int x y
theorem o_leI (x y : Int) : cmpD .LtE (eI x) (eI y) = some (decide (x ≤ y)) := rfl
theorem o_gtI (x y : Int) : cmpD .Gt (eI x) (eI y) = some (decide (y < x)) := rfl
theorem o_geI (x y : Int) : cmpD .GtE (eI x) (eI y) = some (decide (y ≤ x)) := rfl
theorem any_map [DecidableEq α] {d : Nat} (h : EqT a d) (x : α) (xs : List α) : ((xs.map a).any fun z => PyData.eqv z (a x)) = inB x xs := by
  rw [Bool.eq_iff_iff]
  simp only [List.any_eq_true, List.mem_map, inB_iff]
  constructor
  · rintro ⟨z, ⟨j, hj, rfl⟩, he⟩
    rw [h.eqv, decide_eq_true_eq] at he
    exact he ▸ hj
  · intro hx
    exact ⟨_, ⟨x, hx, rfl⟩, by rw [h.eqv]; simp⟩
theorem okIn_map [DecidableEq α] {d : Nat} (h : EqT a d) (hd : d ≤ 63) (x : α) (xs : List α) : okIn (a x) (xs.map a) = true := by
  unfold okIn
  rw [shaped_of h (by omega)]
  have : SeqAt.shaped (.list (xs.map a)) = true := shaped_of (eq_L h) (by omega) xs
  rw [this]
  simp
theorem o_inG [DecidableEq α] {d : Nat} (h : EqT a d) (hd : d ≤ 63) (π : γ → List α) {c : γ → PyData} (hc : ∀ v, c v = .list ((π v).map a) ∨ c v = .tuple ((π v).map a)) (x : α) (v : γ) : cmpD .In (a x) (c v) = some (inB x (π v)) := by
  show inD _ _ = _
  rcases hc v with q | q <;> (rw [q]; simp only [inD, okIn_map h hd, if_true, any_map h])
theorem o_ninG [DecidableEq α] {d : Nat} (h : EqT a d) (hd : d ≤ 63) (π : γ → List α) {c : γ → PyData} (hc : ∀ v, c v = .list ((π v).map a) ∨ c v = .tuple ((π v).map a)) (x : α) (v : γ) : cmpD .NotIn (a x) (c v) = some (!inB x (π v)) := by
  have e : inD (a x) (c v) = some (inB x (π v)) := o_inG h hd π hc x v
  show (inD _ _).map _ = _
  rw [e]
  rfl
/-! arithmetic -/
def mulO (x y : Int) : Option Int := if mulOk x y = true then some (x * y) else none
def modO (x y : Int) : Option Int := if y ≠ 0 then some (x.fmod y) else none
def fdivO (x y : Int) : Option Int := if y ≠ 0 ∧ y.natAbs < 1073741824 then some (x.fdiv y) else none
theorem o_add (x y z : Int) (h : some (x + y) = some z) : binD .Add (eI x) (eI y) = some (eI z) := by cases h; rfl
theorem o_sub (x y z : Int) (h : some (x - y) = some z) : binD .Sub (eI x) (eI y) = some (eI z) := by cases h; rfl
theorem o_mul (x y z : Int) (h : mulO x y = some z) : binD .Mult (eI x) (eI y) = some (eI z) := by
  unfold mulO at h
  split at h
  · rename_i c
    cases h
    simp [eI, binD, binI, c]
  · cases h
theorem o_mod (x y z : Int) (h : modO x y = some z) : binD .Mod (eI x) (eI y) = some (eI z) := by
  unfold modO at h
  split at h
  · rename_i c
    cases h
    simp [eI, binD, binI, c]
  · cases h
theorem o_fdiv (x y z : Int) (h : fdivO x y = some z) : binD .FloorDiv (eI x) (eI y) = some (eI z) := by
  unfold fdivO at h
  split at h
  · rename_i c
    cases h
    simp [eI, binD, binI, c]
  · cases h
def appO (xs ys : List α) : Option (List α) := if lowN 16777217 (xs.length + ys.length) = true then some (xs ++ ys) else none
theorem appO_def (xs ys : List α) : appO xs ys = if xs.length + ys.length ≤ 16777216 then some (xs ++ ys) else none := by
  unfold appO
  refine iteC ?_
  simp only [Bool.and_eq_true, lowN_iff]
  try omega
theorem o_appL (xs ys zs : List α) (h : appO xs ys = some zs) : binD .Add (eL a xs) (eL a ys) = some (eL a zs) := by
  rw [appO_def] at h
  split at h
  · rename_i c
    cases h
    simp [eL, binD, c]
  · cases h
theorem o_appT (xs ys zs : List α) (h : appO xs ys = some zs) : binD .Add (eT a xs) (eT a ys) = some (eT a zs) := by
  rw [appO_def] at h
  split at h
  · rename_i c
    cases h
    simp [eT, binD, c]
  · cases h
/-- of written lengths -/
theorem o_tup {x y z : PyData} {xs ys : List PyData} (h1 : x = .tuple xs) (h2 : y = .tuple ys) (h3 : z = .tuple (xs ++ ys)) (hl : xs.length + ys.length ≤ 16777216) : binD .Add x y = some z := by
  subst h1 h2 h3
  simp [binD, hl]
def repO (xs : List α) (k : Int) : Option (List α) := if (lowN 9223372036854775808 k.natAbs && lowN 16777217 (xs.length * k.toNat)) = true then some (List.replicate k.toNat xs).flatten else none
theorem repO_def (xs : List α) (k : Int) : repO xs k = if ((-9223372036854775808 < k ∧ k < 9223372036854775808) ∧ xs.length * k.toNat ≤ 16777216) then some (List.replicate k.toNat xs).flatten else none := by
  unfold repO
  refine iteC ?_
  simp only [Bool.and_eq_true, lowN_iff]
  try omega
theorem o_rep (xs : List α) (k : Int) (zs : List α) (h : repO xs k = some zs) : binD .Mult (eL a xs) (eI k) = some (eL a zs) := by
  rw [repO_def] at h
  split at h
  · rename_i c
    cases h
    have c' : -(2 ^ 63) ≤ k ∧ k < 2 ^ 63 ∧ (xs.map a).length * k.toNat ≤ 16777216 := ⟨by omega, by omega, by simpa using c.2⟩
    simp only [eL, eI, binD]
    rw [if_pos ⟨trivial, c'⟩]
    simp [List.map_flatten, List.map_replicate]
  · cases h
/-! items -/
theorem atI_map (xs : List α) (i : Int) : atI (xs.map a) i = (atI xs i).map a := by
  unfold atI
  rw [List.length_map]
  cases ixN xs.length i with
  | none => rfl
  | some j => simp
theorem o_ixL (xs : List α) (i : Int) (z : α) (h : atI xs i = some z) : ixD (eL a xs) (eI i) = some (a z) := by
  show atI _ _ = _
  rw [atI_map, h]
  rfl
theorem o_ixT (xs : List α) (i : Int) (z : α) (h : atI xs i = some z) : ixD (eT a xs) (eI i) = some (a z) := by
  show atI _ _ = _
  rw [atI_map, h]
  rfl
theorem cutG_map (xs : List α) (l h : Option Int) : cutG (xs.map a) l h = (cutG xs l h).map a := by
  unfold cutG
  rw [List.length_map, List.map_take, List.map_drop]
theorem o_slcL (xs : List α) (l h : Option Int) : slcD (eL a xs) l h = some (eL a (cutG xs l h)) := by
  show some (PyData.list _) = _
  rw [cutG_map]
  rfl
theorem o_slcT (xs : List α) (l h : Option Int) : slcD (eT a xs) l h = some (eT a (cutG xs l h)) := by
  show some (PyData.tuple _) = _
  rw [cutG_map]
  rfl
/-! built-ins -/
theorem o_lenL (xs : List α) (z : Int) (h : some ((xs.length : Nat) : Int) = some z) : bltD .len (eL a xs) = some (eI z) := by cases h; simp [eL, eI, bltD, lenD]
theorem o_lenT (xs : List α) (z : Int) (h : some ((xs.length : Nat) : Int) = some z) : bltD .len (eT a xs) = some (eI z) := by cases h; simp [eT, eI, bltD, lenD]
theorem intsD_map : ∀ xs : List Int, intsD (xs.map eI) = some xs
  | [] => rfl
  | x :: xs => by rw [List.map_cons, eI, intsD, ← eI, intsD_map xs]; rfl
theorem boolsD_mapB : ∀ xs : List Bool, boolsD (xs.map eB) = some xs
  | [] => rfl
  | x :: xs => by rw [List.map_cons, eB, boolsD, ← eB, boolsD_mapB xs]; rfl
theorem o_sum (xs : List Int) (z : Int) (h : some xs.sum = some z) : bltD .sum (eL eI xs) = some (eI z) := by cases h; simp [eL, bltD, intsD_map]; rfl
theorem o_any (xs : List Bool) (z : Bool) (h : some (xs.any id) = some z) : bltD .any (eL eB xs) = some (eB z) := by cases h; simp [eL, bltD, boolsD_mapB]; rfl
theorem o_all (xs : List Bool) (z : Bool) (h : some (xs.all id) = some z) : bltD .all (eL eB xs) = some (eB z) := by cases h; simp [eL, bltD, boolsD_mapB]; rfl
theorem o_listL (xs z : List α) (h : some xs = some z) : bltD .list (eL a xs) = some (eL a z) := by cases h; rfl
theorem o_listT (xs z : List α) (h : some xs = some z) : bltD .list (eT a xs) = some (eL a z) := by cases h; rfl
theorem o_tupL (xs z : List α) (h : some xs = some z) : bltD .tuple (eL a xs) = some (eT a z) := by cases h; rfl
theorem o_tupT (xs z : List α) (h : some xs = some z) : bltD .tuple (eT a xs) = some (eT a z) := by cases h; rfl
theorem o_int (x z : Int) (h : some x = some z) : bltD .int (eI x) = some (eI z) := by cases h; rfl
theorem o_abs (x z : Int) (h : some (if x < 0 then -x else x) = some z) : bltD .abs (eI x) = some (eI z) := by cases h; rfl
def minL (lt : α → α → Bool) : α → List α → α
  | m, [] => m
  | m, x :: xs => minL lt (if lt x m = true then x else m) xs
theorem minD_map {l : α → α → Bool} {d : Nat} (h : LtT a l d) (hd : d ≤ 32) : ∀ (xs : List α) (m : α), minD (a m) (xs.map a) = some (a (minL l m xs))
  | [], m => rfl
  | x :: xs, m => by
    rw [List.map_cons, minD, o_ltD h hd, minL]
    cases e : l x m with
    | true => simp only [if_true]; exact minD_map h hd xs x
    | false => simp only [Bool.false_eq_true, if_false]; exact minD_map h hd xs m
def minO (lt : α → α → Bool) : List α → Option α
  | [] => none
  | x :: xs => some (minL lt x xs)
theorem o_min {l : α → α → Bool} {d : Nat} (h : LtT a l d) (hd : d ≤ 32) (xs : List α) (z : α) (e : minO l xs = some z) : bltD .mn (eL a xs) = some (a z) := by
  cases xs with
  | nil => cases e
  | cons x xs =>
    cases e
    exact minD_map h hd xs x
theorem o_min2 {l : α → α → Bool} {d : Nat} (h : LtT a l d) (hd : d ≤ 32) (x y z : α) (e : some (if l y x = true then y else x) = some z) : bltD2 .mn (a x) (a y) = some (a z) := by
  cases e
  exact minD_map h hd [y] x
def maxO : List Int → Option Int
  | [] => none
  | x :: xs => some (maxI x xs)
theorem o_max (xs : List Int) (z : Int) (e : maxO xs = some z) : bltD .mx (eL eI xs) = some (eI z) := by
  cases xs with
  | nil => cases e
  | cons x xs =>
    cases e
    have := intsD_map (x :: xs)
    simp only [eL, bltD, this]
    rfl
theorem o_max2 (x y z : Int) (e : some (if y > x then y else x) = some z) : bltD2 .mx (eI x) (eI y) = some (eI z) := by
  cases e
  rfl
def srt (l : α → α → Bool) (xs : List α) : List α := xs.mergeSort fun x y => !l y x
theorem alikeRow_map (h : ∀ x y, PySem.W.alike (a x) (a y) = true) : ∀ xs : List α, alikeRow (xs.map a) = true
  | [] => rfl
  | x :: xs => by
    rw [List.map_cons, alikeRow, alikeRow_map h xs, h]
    simp [h]
theorem o_sort {l : α → α → Bool} {d : Nat} (h : LtT a l d) (hd : d ≤ 32) (ht : (∀ x, isTupD (a x) = true) ∨ ∀ x, noTupD (a x) = true) (xs z : List α) (e : some (srt l xs) = some z) : bltD .sorted (eL a xs) = some (eL a z) := by
  cases e
  have h3 : ((xs.map a).all isTupD || (xs.map a).all noTupD) = true := by
    rcases ht with ht | ht
    · simp [ht]
    · simp [ht]
  have h4 : ((xs.map a).all fun x => decide (x.depth ≤ 32)) = true := by
    simp only [List.all_map, List.all_eq_true, Function.comp, decide_eq_true_eq]
    exact fun x _ => Nat.le_trans (h.dep x) hd
  show (sortD (xs.map a)).map _ = _
  unfold sortD
  rw [if_pos ⟨alikeRow_map h.ali xs, noDics_map h.noD xs, h3, h4⟩]
  unfold eL srt
  simp only [Option.map_some]
  congr 2
  rw [List.map_mergeSort]
  intro x _ y _
  rw [h.val]
/-! truth -/
theorem tr_L (v : List α) : truD (eL a v) = some (!v.isEmpty) := by cases v <;> rfl
theorem tr_T (v : List α) : truD (eT a v) = some (!v.isEmpty) := by cases v <;> rfl
theorem tr_I (v : Int) : truD (eI v) = some (v != 0) := rfl
theorem nn_I (v : Int) : isD (.d (eI v)) .none = some false := rfl
theorem nn_S (v : SO) : isD (.d (eT1 v)) .none = some false := rfl
theorem nn_L (v : List α) : isD (.d (eL a v)) .none = some false := rfl
theorem nn_T (v : List α) : isD (.d (eT a v)) .none = some false := rfl
end
end PV

/-! PT5: draws, and other things that change while a term is read. -/
namespace PV
open PySem PySem.Spec PyProof.Rows L2
/-- what is left to draw from -/
structure Dr where
  ns : List Int
  p : Nat
  c : Int
  a : Int
def dO (d : Dr) : Ob := drO d.ns d.p d.c d.a
def nxtC (d : Dr) (x m : Int) : Int × Dr :=
  if (1000000000000000000 : Int) ≤ x then (x.fmod m, ⟨d.ns, d.p + 1, x.fdiv m, d.a⟩)
  else ((((((d.a * 48271 + x + 11).fmod 2147483647) * 69621).fmod 2147483629).fdiv 7).fmod m, ⟨d.ns, d.p + 1, d.c, (d.a * 48271 + x + 11).fmod 2147483647⟩)
def nxtV (d : Dr) (m : Int) : Int × Dr :=
  if 0 < d.c then (d.c.fmod m, ⟨d.ns, d.p, d.c.fdiv m, d.a⟩)
  else match d.ns[d.p]? with
    | some x => nxtC d (if x < 0 then -x else x) m
    | none => ((((((d.a * 48271 + 12345).fmod 2147483647) * 69621).fmod 2147483629).fdiv 7).fmod m, ⟨d.ns, d.p, d.c, (d.a * 48271 + 12345).fmod 2147483647⟩)
theorem nxtC_ok (d : Dr) (x : Int) {m : Int} (h : 0 < m) : 0 ≤ (nxtC d x m).1 ∧ (nxtC d x m).1 < m := by
  unfold nxtC
  split <;> exact ⟨Int.fmod_nonneg_of_pos _ h, Int.fmod_lt_of_pos _ h⟩
theorem nxtV_ok (d : Dr) {m : Int} (h : 0 < m) : 0 ≤ (nxtV d m).1 ∧ (nxtV d m).1 < m := by
  unfold nxtV
  split
  · exact ⟨Int.fmod_nonneg_of_pos _ h, Int.fmod_lt_of_pos _ h⟩
  · split
    · exact nxtC_ok d _ h
    · exact ⟨Int.fmod_nonneg_of_pos _ h, Int.fmod_lt_of_pos _ h⟩
theorem nxtV_lo (d : Dr) {m : Int} (h : 0 < m) : 0 ≤ (nxtV d m).1 := (nxtV_ok d h).1
theorem nxtV_hi (d : Dr) {m : Int} (h : 0 < m) : (nxtV d m).1 < m := (nxtV_ok d h).2
def Nx (d : Dr) (m : Int) : Option (Int × Dr) := if 0 < m ∧ m < 1073741824 then some (nxtV d m) else none
/-- the only thing that is asked of a draw -/
theorem nx_ok (d : Dr) {m : Int} (h0 : 0 < m) (h1 : m < 1073741824) : ∃ r d', Nx d m = some (r, d') ∧ 0 ≤ r ∧ r < m := ⟨(nxtV d m).1, (nxtV d m).2, by unfold Nx; rw [if_pos ⟨h0, h1⟩], nxtV_lo d h0, nxtV_hi d h0⟩
theorem next_is (Φ : List Fs) (Γ : List PyData) {d : Dr} {S : Sto} {k : Nat} {many : Int} (hk : S[k]? = some (dO d)) (h0 : 0 < many) (h1 : many < 1073741824) : run Φ Γ 4 bNext [.obj k, .d (.int many)] S = some (.d (.int (nxtV d many).1), S.set k (dO (nxtV d many).2)) := by
  obtain ⟨ns, p, c, a⟩ := d
  simp only [dO] at hk ⊢
  have hkl : k < S.length := by
    rcases Nat.lt_or_ge k S.length with h | h
    · exact h
    · rw [List.getElem?_eq_none h] at hk
      cases hk
  have ne : many ≠ 0 := by omega
  have na : many.natAbs < 1073741824 := by omega
  have gk : ∀ o : Ob, (S.set k o)[k]? = some o := fun o => by rw [List.getElem?_set_self hkl]
  have mulA : ∀ x : Int, mulOk x 48271 = true := fun x => by unfold mulOk; simp
  have mulB : ∀ x : Int, mulOk x 69621 = true := fun x => by unfold mulOk; simp
  have hpow : binD .Pow (.int 10) (.int 18) = some (.int 1000000000000000000) := by simp [binD, binI]
  by_cases hc : 0 < c
  · have e : nxtV ⟨ns, p, c, a⟩ many = (c.fmod many, ⟨ns, p, c.fdiv many, a⟩) := by simp [nxtV, hc]
    rw [e]
    simp [run, bNext, exs, ex, ev, evs, evT, bnd, tru, truD, deref, hk, drO, ixF, ixD, atI_2, cmpF, cmpD, hc, bltF, bltD, binF, binD, binI, ne, na, setF, frz, ixN_2]
  · by_cases hp : p < ns.length
    · have hat : atI (ns.map PyData.int) (p : Int) = some (.int ns[p]) := by
        rw [atI_nat _ p (by simpa using hp)]
        simp
      have hg : ns[p]? = some ns[p] := List.getElem?_eq_getElem hp
      generalize hcell : (if ns[p] < 0 then -ns[p] else ns[p]) = cell
      by_cases hb : (1000000000000000000 : Int) ≤ cell
      · have e : nxtV ⟨ns, p, c, a⟩ many = (cell.fmod many, ⟨ns, p + 1, cell.fdiv many, a⟩) := by simp [nxtV, nxtC, hc, hg, hcell, hb]
        rw [e]
        simp [run, bNext, exs, ex, ev, evs, evT, bnd, tru, truD, deref, hk, drO, ixF, ixD, atI_0, atI_1, atI_2, atI_3, cmpF_gt, cmpF_lt, cmpF_ge, ltD_int, hc, hp, hat, hcell, hb, bltF, bltD, lenD, binF_d, hpow, binD, binI, ne, na, setF, frz, ixN_1, ixN_2, ixN_3, gk, List.set_set]
      · have e : nxtV ⟨ns, p, c, a⟩ many = ((((((a * 48271 + cell + 11).fmod 2147483647) * 69621).fmod 2147483629).fdiv 7).fmod many, ⟨ns, p + 1, c, (a * 48271 + cell + 11).fmod 2147483647⟩) := by simp [nxtV, nxtC, hc, hg, hcell, hb]
        rw [e]
        simp [run, bNext, exs, ex, ev, evs, evT, bnd, tru, truD, deref, hk, drO, ixF, ixD, atI_0, atI_1, atI_2, atI_3, cmpF_gt, cmpF_lt, cmpF_ge, ltD_int, hc, hp, hat, hcell, hb, bltF, bltD, lenD, binF_d, hpow, binD, binI, ne, na, setF, frz, ixN_1, ixN_2, ixN_3, gk, List.set_set, mulA, mulB]
    · have hg : ns[p]? = none := List.getElem?_eq_none (by omega)
      have e : nxtV ⟨ns, p, c, a⟩ many = ((((((a * 48271 + 12345).fmod 2147483647) * 69621).fmod 2147483629).fdiv 7).fmod many, ⟨ns, p, c, (a * 48271 + 12345).fmod 2147483647⟩) := by simp [nxtV, hc, hg]
      rw [e]
      simp [run, bNext, exs, ex, ev, evs, evT, bnd, tru, truD, deref, hk, drO, ixF, ixD, atI_0, atI_1, atI_2, atI_3, cmpF_gt, cmpF_lt, cmpF_ge, ltD_int, hc, hp, bltF, bltD, lenD, binF_d, hpow, binD, binI, ne, na, setF, frz, ixN_1, ixN_2, ixN_3, gk, List.set_set, mulA, mulB]
/-! what is computed -/
section
variable {α β δ : Type}
def mapX (g : α → δ → Option (β × δ)) : List α → δ → Option (List β × δ)
  | [], d => some ([], d)
  | x :: xs, d => match g x d with
    | none => none
    | some (y, d1) => match mapX g xs d1 with
      | none => none
      | some (ys, d2) => some (y :: ys, d2)
def filX (p : α → δ → Option (Bool × δ)) (g : α → δ → Option (β × δ)) : List α → δ → Option (List β × δ)
  | [], d => some ([], d)
  | x :: xs, d => match p x d with
    | none => none
    | some (false, d1) => filX p g xs d1
    | some (true, d1) => match g x d1 with
      | none => none
      | some (y, d2) => match filX p g xs d2 with
        | none => none
        | some (ys, d3) => some (y :: ys, d3)
theorem filX_mapX (g : α → δ → Option (β × δ)) : ∀ (xs : List α) (d : δ), filX (fun _ d => some (true, d)) g xs d = mapX g xs d
  | [], _ => rfl
  | x :: xs, d => by
    rw [filX, mapX]
    simp only
    cases g x d with
    | none => rfl
    | some r =>
      obtain ⟨y, d1⟩ := r
      simp only
      rw [filX_mapX g xs d1]
end
section
variable {δ : Type} (Φ : List Fs) (Γ : List PyData) (C : δ → Ct) (d : δ)
def JX (e : Ex) {α : Type} (enc : α → PyData) (t : Option (α × δ)) : Prop := ∀ env S, Rel (C d) env S → ∀ v d', t = some (v, d') → ∃ S', ev Φ Γ e env S = some (.d (enc v), S') ∧ Rel (C d') env S'
def JXT (e : Ex) (t : Option (Bool × δ)) : Prop := ∀ env S, Rel (C d) env S → ∀ b d', t = some (b, d') → ∃ a S', ev Φ Γ e env S = some (a, S') ∧ tru S' a = some b ∧ Rel (C d') env S'
def JXA (es : Exs) {α : Type} (pk : α → List PyData) (t : Option (α × δ)) : Prop := ∀ env S, Rel (C d) env S → ∀ v d', t = some (v, d') → ∃ S', evs Φ Γ es env S = some ((pk v).map .d, S') ∧ Rel (C d') env S'
def JXI (it : Itx) {α : Type} (enc : α → PyData) (t : Option (List α × δ)) : Prop := ∀ env S, Rel (C d) env S → ∀ xs d', t = some (xs, d') → ∃ S', evI Φ Γ it env S = some (xs.map enc, none, S') ∧ Rel (C d') env S'
def JXO (es : Exs) (t : Option (Option Int × δ)) : Prop := ∀ env S, Rel (C d) env S → ∀ o d', t = some (o, d') → ∃ S', evOpt Φ Γ es env S = some (o, S') ∧ Rel (C d') env S'
end
def CB (B : Sto) (k : Nat) (c : List Sl) (d : Dr) : Ct := ⟨B.set k (dO d), c⟩
def noPv (c : List Sl) : Bool := !c.any Sl.hasPv
theorem draw_rel {B : Sto} {k : Nat} {c : List Sl} {d d' : Dr} {env : En} {S : Sto} (R : Rel (CB B k c d) env S) (hk : k < B.length) (hp : noPv c = true) : S[k]? = some (dO d) ∧ Rel (CB B k c d') env (S.set k (dO d')) := by
  have hp' : c.any Sl.hasPv = false := by simpa [noPv] using hp
  obtain ⟨X, e, R'⟩ := Rel.base (B := B.set k (dO d)) (c := c) R (B' := B.set k (dO d')) (by simp) hp'
  subst e
  refine ⟨by rw [List.getElem?_append_left (by simpa using hk), List.getElem?_set_self hk], ?_⟩
  rw [List.set_append, if_pos (by simpa using hk), List.set_set]
  exact R'
section
variable {δ : Type} {Φ : List Fs} {Γ : List PyData} {C : δ → Ct} {d : δ} {α β γ : Type} {ea : α → PyData} {eb : β → PyData} {ec : γ → PyData}
theorem JX.of {e : Ex} {t t' : Option (α × δ)} (h : JX Φ Γ C d e ea t) (q : t = t') : JX Φ Γ C d e ea t' := q ▸ h
theorem jx_e {e : Ex} {t : Option α} (h : JE Φ Γ (C d) e ea t) : JX Φ Γ C d e ea (t.map fun v => (v, d)) := fun env S R v d' hv => by
  cases t with
  | none => cases hv
  | some u =>
    cases hv
    exact ⟨S, h env S R _ rfl, R⟩
theorem JX.enc {e : Ex} {t : Option (α × δ)} {f : α → β} (h : JX Φ Γ C d e ea t) (q : ∀ v, ea v = eb (f v)) : JX Φ Γ C d e eb (t.map fun p => (f p.1, p.2)) := fun env S R v d' hv => by
  cases t with
  | none => cases hv
  | some u =>
    obtain ⟨u, d1⟩ := u
    cases hv
    obtain ⟨S', e1, R1⟩ := h env S R u _ rfl
    exact ⟨S', by rw [e1, q], R1⟩
theorem jxt_t {e : Ex} {t : Option Bool} (h : JT Φ Γ (C d) e t) : JXT Φ Γ C d e (t.map fun v => (v, d)) := fun env S R v d' hv => by
  cases t with
  | none => cases hv
  | some u =>
    cases hv
    obtain ⟨a, e1, e2⟩ := h env S R _ rfl
    exact ⟨a, S, e1, e2, R⟩
theorem jxt_b {e : Ex} {t : Option (Bool × δ)} (h : JX Φ Γ C d e eB t) : JXT Φ Γ C d e t := fun env S R v d' hv => by
  obtain ⟨S', e1, R1⟩ := h env S R v d' hv
  exact ⟨_, S', e1, rfl, R1⟩
theorem jx_bin {o : Operator} {a b : Ex} {ta : Option (α × δ)} {tb : δ → Option (β × δ)} (f : α → β → Option γ) (hop : ∀ x y z, f x y = some z → binD o (ea x) (eb y) = some (ec z)) (ha : JX Φ Γ C d a ea ta) (hb : ∀ d', JX Φ Γ C d' b eb (tb d')) : JX Φ Γ C d (.bin o a b) ec (ta.bind fun p => (tb p.2).bind fun q => (f p.1 q.1).map fun z => (z, q.2)) := fun env S R v d' hv => by
  cases ta with
  | none => cases hv
  | some p =>
    obtain ⟨x, d1⟩ := p
    simp only [Option.bind_some] at hv
    cases hq : tb d1 with
    | none => rw [hq] at hv; cases hv
    | some q =>
      obtain ⟨y, d2⟩ := q
      rw [hq] at hv
      simp only [Option.bind_some] at hv
      cases hf : f x y with
      | none => rw [hf] at hv; cases hv
      | some z =>
        rw [hf] at hv
        cases hv
        obtain ⟨S1, e1, R1⟩ := ha env S R x d1 rfl
        obtain ⟨S2, e2, R2⟩ := hb d1 env S1 R1 y _ hq
        refine ⟨S2, ?_, R2⟩
        rw [ev_bin, e1]
        simp only [e2, binF_d, hop x y _ hf, Option.map_some]
theorem jx_cmp {o : CmpOp} {a b : Ex} {ta : Option (α × δ)} {tb : δ → Option (β × δ)} (f : α → β → Option Bool) (hop : ∀ x y z, f x y = some z → cmpD o (ea x) (eb y) = some z) (ha : JX Φ Γ C d a ea ta) (hb : ∀ d', JX Φ Γ C d' b eb (tb d')) : JX Φ Γ C d (.cmp o a b) eB (ta.bind fun p => (tb p.2).bind fun q => (f p.1 q.1).map fun z => (z, q.2)) := fun env S R v d' hv => by
  cases ta with
  | none => cases hv
  | some p =>
    obtain ⟨x, d1⟩ := p
    simp only [Option.bind_some] at hv
    cases hq : tb d1 with
    | none => rw [hq] at hv; cases hv
    | some q =>
      obtain ⟨y, d2⟩ := q
      rw [hq] at hv
      simp only [Option.bind_some] at hv
      cases hf : f x y with
      | none => rw [hf] at hv; cases hv
      | some z =>
        rw [hf] at hv
        cases hv
        obtain ⟨S1, e1, R1⟩ := ha env S R x d1 rfl
        obtain ⟨S2, e2, R2⟩ := hb d1 env S1 R1 y _ hq
        refine ⟨S2, ?_, R2⟩
        rw [ev_cmp, e1]
        simp only [e2, cmpF_de (S := S2) (u := .d (ea x)) (w := .d (eb y)) rfl rfl (hop x y _ hf), Option.map_some]
        rfl
theorem jx_neg {a : Ex} {ta : Option (Int × δ)} (ha : JX Φ Γ C d a eI ta) : JX Φ Γ C d (.neg a) eI (ta.map fun p => (-p.1, p.2)) := fun env S R v d' hv => by
  cases ta with
  | none => cases hv
  | some p =>
    obtain ⟨x, d1⟩ := p
    cases hv
    obtain ⟨S1, e1, R1⟩ := ha env S R x _ rfl
    refine ⟨S1, ?_, R1⟩
    unfold eI at e1 ⊢
    rw [ev_neg, e1]
theorem jx_ix {a i : Ex} {ta : Option (α × δ)} {ti : δ → Option (β × δ)} (f : α → β → Option γ) (hop : ∀ x y z, f x y = some z → ixD (ea x) (eb y) = some (ec z)) (ha : JX Φ Γ C d a ea ta) (hi : ∀ d', JX Φ Γ C d' i eb (ti d')) : JX Φ Γ C d (.ix a i) ec (ta.bind fun p => (ti p.2).bind fun q => (f p.1 q.1).map fun z => (z, q.2)) := fun env S R v d' hv => by
  cases ta with
  | none => cases hv
  | some p =>
    obtain ⟨x, d1⟩ := p
    simp only [Option.bind_some] at hv
    cases hq : ti d1 with
    | none => rw [hq] at hv; cases hv
    | some q =>
      obtain ⟨y, d2⟩ := q
      rw [hq] at hv
      simp only [Option.bind_some] at hv
      cases hf : f x y with
      | none => rw [hf] at hv; cases hv
      | some z =>
        rw [hf] at hv
        cases hv
        obtain ⟨S1, e1, R1⟩ := ha env S R x d1 rfl
        obtain ⟨S2, e2, R2⟩ := hi d1 env S1 R1 y _ hq
        refine ⟨S2, ?_, R2⟩
        rw [ev_ix, e1]
        simp only [e2, ixF_d, hop x y _ hf, Option.map_some]
theorem jx_at {a i : Ex} {ta : Option (α × δ)} {n : Int} (π : α → γ) (hop : ∀ x, ixD (ea x) (.int n) = some (ec (π x))) (ha : JX Φ Γ C d a ea ta) (hi : ∀ d', JE Φ Γ (C d') i eI (some n)) : JX Φ Γ C d (.ix a i) ec (ta.map fun p => (π p.1, p.2)) := fun env S R v d' hv => by
  cases ta with
  | none => cases hv
  | some p =>
    obtain ⟨x, d1⟩ := p
    cases hv
    obtain ⟨S1, e1, R1⟩ := ha env S R x _ rfl
    have e2 := hi _ env S1 R1 n rfl
    refine ⟨S1, ?_, R1⟩
    rw [ev_ix, e1]
    simp only [e2]
    rw [ixF_de (a := .d (ea x)) rfl (y := .int n) rfl, hop x]
    rfl
theorem jxo_nil : JXO Φ Γ C d .nil (some (none, d)) := fun env S R o d' ho => by
  cases ho
  exact ⟨S, by rw [evOpt], R⟩
theorem jxo_cons {e : Ex} {t : Option (Int × δ)} (h : JX Φ Γ C d e eI t) : JXO Φ Γ C d (.cons e .nil) (t.map fun p => (some p.1, p.2)) := fun env S R o d' ho => by
  cases t with
  | none => cases ho
  | some p =>
    obtain ⟨i, d1⟩ := p
    cases ho
    obtain ⟨S1, e1, R1⟩ := h env S R i _ rfl
    exact ⟨S1, by rw [evOpt, e1]; rfl, R1⟩
theorem jx_slc {a : Ex} {lo hi : Exs} {ta : Option (α × δ)} {tl th : δ → Option (Option Int × δ)} (f : α → Option Int → Option Int → γ) (hop : ∀ x l h, slcD (ea x) l h = some (ec (f x l h))) (ha : JX Φ Γ C d a ea ta) (hl : ∀ d', JXO Φ Γ C d' lo (tl d')) (hh : ∀ d', JXO Φ Γ C d' hi (th d')) : JX Φ Γ C d (.slc a lo hi) ec (ta.bind fun p => (tl p.2).bind fun l => (th l.2).map fun h => (f p.1 l.1 h.1, h.2)) := fun env S R v d' hv => by
  cases ta with
  | none => cases hv
  | some p =>
    obtain ⟨x, d1⟩ := p
    simp only [Option.bind_some] at hv
    cases hq : tl d1 with
    | none => rw [hq] at hv; cases hv
    | some q =>
      obtain ⟨l, d2⟩ := q
      rw [hq] at hv
      simp only [Option.bind_some] at hv
      cases hf : th d2 with
      | none => rw [hf] at hv; cases hv
      | some w =>
        obtain ⟨h, d3⟩ := w
        rw [hf] at hv
        cases hv
        obtain ⟨S1, e1, R1⟩ := ha env S R x d1 rfl
        obtain ⟨S2, e2, R2⟩ := hl d1 env S1 R1 l _ hq
        obtain ⟨S3, e3, R3⟩ := hh d2 env S2 R2 h _ hf
        refine ⟨S3, ?_, R3⟩
        rw [ev_slc, e1]
        simp only [e2, e3, deref_d, hop, Option.map_some]
theorem jxa_nil : JXA Φ Γ C d .nil (fun _ : Unit => []) (some ((), d)) := fun env S R v d' hv => by
  cases hv
  exact ⟨S, x_evs_nil .., R⟩
theorem jxa_cons {e : Ex} {es : Exs} {ta : Option (α × δ)} {tb : δ → Option (β × δ)} {pk : β → List PyData} (h : JX Φ Γ C d e ea ta) (hs : ∀ d', JXA Φ Γ C d' es pk (tb d')) : JXA Φ Γ C d (.cons e es) (fun v : α × β => ea v.1 :: pk v.2) (ta.bind fun p => (tb p.2).map fun q => ((p.1, q.1), q.2)) := fun env S R v d' hv => by
  cases ta with
  | none => cases hv
  | some p =>
    obtain ⟨x, d1⟩ := p
    simp only [Option.bind_some] at hv
    cases hq : tb d1 with
    | none => rw [hq] at hv; cases hv
    | some q =>
      obtain ⟨y, d2⟩ := q
      rw [hq] at hv
      cases hv
      obtain ⟨S1, e1, R1⟩ := h env S R x d1 rfl
      obtain ⟨S2, e2, R2⟩ := hs d1 env S1 R1 y _ hq
      exact ⟨S2, by rw [x_evs_cons, e1]; simp only [e2, List.map_cons], R2⟩
theorem frzAll_map (S : Sto) : ∀ xs : List PyData, frzAll (xs.map .d) S = some (xs, S)
  | [] => rfl
  | x :: xs => by rw [List.map_cons, frzAll_d, frzAll_map S xs]
theorem jx_tup {es : Exs} {ta : Option (α × δ)} {pk : α → List PyData} (h : JXA Φ Γ C d es pk ta) (f : α → γ) (hp : ∀ v, .tuple (pk v) = ec (f v)) : JX Φ Γ C d (.tup es) ec (ta.map fun p => (f p.1, p.2)) := fun env S R v d' hv => by
  cases ta with
  | none => cases hv
  | some p =>
    obtain ⟨x, d1⟩ := p
    cases hv
    obtain ⟨S1, e1, R1⟩ := h env S R x _ rfl
    refine ⟨S1, ?_, R1⟩
    rw [ev_tup, e1]
    simp only [frzAll_map, hp]
theorem jx_lst {es : Exs} {ta : Option (α × δ)} {pk : α → List PyData} (h : JXA Φ Γ C d es pk ta) (f : α → γ) (hp : ∀ v, .list (pk v) = ec (f v)) : JX Φ Γ C d (.lst es) ec (ta.map fun p => (f p.1, p.2)) := fun env S R v d' hv => by
  cases ta with
  | none => cases hv
  | some p =>
    obtain ⟨x, d1⟩ := p
    cases hv
    obtain ⟨S1, e1, R1⟩ := h env S R x _ rfl
    refine ⟨S1, ?_, R1⟩
    rw [ev_lst, e1]
    simp only [frzAll_map, hp]
theorem ago_map (S : Sto) : ∀ xs : List PyData, AgO S (xs.map .d) (xs.map fun x => (true, x))
  | [] => trivial
  | x :: xs => ⟨by simp, ago_map S xs⟩
theorem jx_call {i : Nat} {es : Exs} {ta : Option (α × δ)} {pk : α → List PyData} {F : α → Option γ} (h : JXA Φ Γ C d es pk ta) (hf : FnT Φ i (fun v => (pk v).map fun x => (true, x)) F ec) (hB : ∀ d', (C d').B.all Ob.flat = true) : JX Φ Γ C d (.call i es) ec (ta.bind fun p => (F p.1).map fun z => (z, p.2)) := fun env S R v d' hv => by
  cases ta with
  | none => cases hv
  | some p =>
    obtain ⟨x, d1⟩ := p
    simp only [Option.bind_some] at hv
    cases hq : F x with
    | none => rw [hq] at hv; cases hv
    | some z =>
      rw [hq] at hv
      cases hv
      obtain ⟨S1, e1, R1⟩ := h env S R x _ rfl
      obtain ⟨m, e2, hm⟩ := hf
      obtain ⟨X, hX, e3⟩ := hm S1 _ x _ (R1.flat (hB _)) (ago_map S1 (pk x)) hq
      refine ⟨S1, ?_, R1⟩
      rw [r_call e1 e2 e3, gc_app (.inr trivial)]
      rw [List.take_left]
      exact R1.flat (hB _)
theorem jx_ite {c a b : Ex} {tc : Option (Bool × δ)} {ta tb : δ → Option (α × δ)} (hc : JXT Φ Γ C d c tc) (ha : ∀ d', JX Φ Γ C d' a ea (ta d')) (hb : ∀ d', JX Φ Γ C d' b ea (tb d')) : JX Φ Γ C d (.ite c a b) ea (tc.bind fun p => if p.1 = true then ta p.2 else tb p.2) := fun env S R v d' hv => by
  cases tc with
  | none => cases hv
  | some p =>
    obtain ⟨x, d1⟩ := p
    obtain ⟨u, S1, e1, t1, R1⟩ := hc env S R x d1 rfl
    have hv : (if x = true then ta d1 else tb d1) = some (v, d') := hv
    cases x with
    | true =>
      obtain ⟨S2, e2, R2⟩ := ha d1 env S1 R1 v d' hv
      exact ⟨S2, by rw [ev_ite, e1]; simp only [t1]; exact e2, R2⟩
    | false =>
      obtain ⟨S2, e2, R2⟩ := hb d1 env S1 R1 v d' hv
      exact ⟨S2, by rw [ev_ite, e1]; simp only [t1]; exact e2, R2⟩
theorem jx_blt {b : Bl} {a : Ex} {ta : Option (α × δ)} (f : α → Option γ) (hop : ∀ x z, f x = some z → bltD b (ea x) = some (ec z)) (ha : JX Φ Γ C d a ea ta) : JX Φ Γ C d (.blt b (.cons a .nil)) ec (ta.bind fun p => (f p.1).map fun z => (z, p.2)) := fun env S R v d' hv => by
  cases ta with
  | none => cases hv
  | some p =>
    obtain ⟨x, d1⟩ := p
    simp only [Option.bind_some] at hv
    cases hq : f x with
    | none => rw [hq] at hv; cases hv
    | some z =>
      rw [hq] at hv
      cases hv
      obtain ⟨S1, e1, R1⟩ := ha env S R x _ rfl
      refine ⟨S1, ?_, R1⟩
      rw [ev_blt, x_evs_cons, e1]
      simp only [x_evs_nil, bltF_d, hop x _ hq, Option.map_some]
theorem jx_orV {a b : Ex} {ta : Option (α × δ)} {tb : δ → Option (α × δ)} (f : α → Bool) (hf : ∀ v, truD (ea v) = some (f v)) (ha : JX Φ Γ C d a ea ta) (hb : ∀ d', JX Φ Γ C d' b ea (tb d')) : JX Φ Γ C d (.or (.cons a (.cons b .nil))) ea (ta.bind fun p => if f p.1 = true then some p else tb p.2) := fun env S R v d' hv => by
  cases ta with
  | none => cases hv
  | some p =>
    obtain ⟨x, d1⟩ := p
    obtain ⟨S1, e1, R1⟩ := ha env S R x d1 rfl
    have hv : (if f x = true then some (x, d1) else tb d1) = some (v, d') := hv
    have ht : tru S1 (.d (ea x)) = some (f x) := hf x
    cases hfx : f x with
    | true =>
      rw [hfx] at hv
      cases hv
      exact ⟨S1, by rw [ev_or, x_or, e1]; simp only [ht, hfx], R1⟩
    | false =>
      rw [hfx] at hv
      obtain ⟨S2, e2, R2⟩ := hb d1 env S1 R1 v d' hv
      exact ⟨S2, by rw [ev_or, x_or, e1]; simp only [ht, hfx, x_or1]; exact e2, R2⟩
theorem jxt_and1 {a : Ex} {t : Option (Bool × δ)} (h : JXT Φ Γ C d a t) : JXT Φ Γ C d (.and (.cons a .nil)) t := fun env S R b d' hb => by
  rw [ev_and, x_and1]
  exact h env S R b d' hb
theorem jxt_or1 {a : Ex} {t : Option (Bool × δ)} (h : JXT Φ Γ C d a t) : JXT Φ Γ C d (.or (.cons a .nil)) t := fun env S R b d' hb => by
  rw [ev_or, x_or1]
  exact h env S R b d' hb
theorem jxt_and {a b : Ex} {es : Exs} {ta : Option (Bool × δ)} {tb : δ → Option (Bool × δ)} (ha : JXT Φ Γ C d a ta) (hb : ∀ d', JXT Φ Γ C d' (.and (.cons b es)) (tb d')) : JXT Φ Γ C d (.and (.cons a (.cons b es))) (ta.bind fun p => if p.1 = true then tb p.2 else some (false, p.2)) := fun env S R v d' hv => by
  cases ta with
  | none => cases hv
  | some p =>
    obtain ⟨x, d1⟩ := p
    obtain ⟨u, S1, e1, t1, R1⟩ := ha env S R x d1 rfl
    have hv : (if x = true then tb d1 else some (false, d1)) = some (v, d') := hv
    rw [ev_and, x_and, e1]
    simp only [t1]
    cases x with
    | false =>
      cases hv
      exact ⟨u, S1, rfl, t1, R1⟩
    | true =>
      have := hb d1 env S1 R1 v d' hv
      rwa [ev_and] at this
theorem jxt_or {a b : Ex} {es : Exs} {ta : Option (Bool × δ)} {tb : δ → Option (Bool × δ)} (ha : JXT Φ Γ C d a ta) (hb : ∀ d', JXT Φ Γ C d' (.or (.cons b es)) (tb d')) : JXT Φ Γ C d (.or (.cons a (.cons b es))) (ta.bind fun p => if p.1 = true then some (true, p.2) else tb p.2) := fun env S R v d' hv => by
  cases ta with
  | none => cases hv
  | some p =>
    obtain ⟨x, d1⟩ := p
    obtain ⟨u, S1, e1, t1, R1⟩ := ha env S R x d1 rfl
    have hv : (if x = true then some (true, d1) else tb d1) = some (v, d') := hv
    rw [ev_or, x_or, e1]
    simp only [t1]
    cases x with
    | true =>
      cases hv
      exact ⟨u, S1, rfl, t1, R1⟩
    | false =>
      have := hb d1 env S1 R1 v d' hv
      rwa [ev_or] at this
theorem jx_and1 {a : Ex} {t : Option (Bool × δ)} (h : JX Φ Γ C d a eB t) : JX Φ Γ C d (.and (.cons a .nil)) eB t := fun env S R b d' hb => by
  rw [ev_and, x_and1]
  exact h env S R b d' hb
theorem jx_and {a b : Ex} {es : Exs} {ta : Option (Bool × δ)} {tb : δ → Option (Bool × δ)} (ha : JX Φ Γ C d a eB ta) (hb : ∀ d', JX Φ Γ C d' (.and (.cons b es)) eB (tb d')) : JX Φ Γ C d (.and (.cons a (.cons b es))) eB (ta.bind fun p => if p.1 = true then tb p.2 else some (false, p.2)) := fun env S R v d' hv => by
  cases ta with
  | none => cases hv
  | some p =>
    obtain ⟨x, d1⟩ := p
    obtain ⟨S1, e1, R1⟩ := ha env S R x d1 rfl
    have hv : (if x = true then tb d1 else some (false, d1)) = some (v, d') := hv
    rw [ev_and, x_and, e1]
    cases x with
    | false =>
      cases hv
      exact ⟨S1, rfl, R1⟩
    | true =>
      have := hb d1 env S1 R1 v d' hv
      rwa [ev_and] at this
theorem jx_not {a : Ex} {t : Option (Bool × δ)} (h : JXT Φ Γ C d a t) : JX Φ Γ C d (.not a) eB (t.map fun p => (!p.1, p.2)) := fun env S R v d' hv => by
  cases t with
  | none => cases hv
  | some p =>
    obtain ⟨x, d1⟩ := p
    cases hv
    obtain ⟨u, S1, e1, t1, R1⟩ := h env S R x _ rfl
    exact ⟨S1, by rw [ev_not, e1]; simp only [t1, Option.map_some]; rfl, R1⟩
theorem jx_isB {a : Ex} {ta : Option (Bool × δ)} (b : Bool) (ha : JX Φ Γ C d a eB ta) : JX Φ Γ C d (.cmp .Is a (.cst (.bool b))) eB (ta.map fun p => (decide (p.1 = b), p.2)) := fun env S R v d' hv => by
  cases ta with
  | none => cases hv
  | some p =>
    obtain ⟨x, d1⟩ := p
    cases hv
    obtain ⟨S1, e1, R1⟩ := ha env S R x _ rfl
    exact ⟨S1, by rw [ev_cmp, e1]; rfl, R1⟩
theorem jx_isnB {a : Ex} {ta : Option (Bool × δ)} (b : Bool) (ha : JX Φ Γ C d a eB ta) : JX Φ Γ C d (.cmp .IsNot a (.cst (.bool b))) eB (ta.map fun p => (!decide (p.1 = b), p.2)) := fun env S R v d' hv => by
  cases ta with
  | none => cases hv
  | some p =>
    obtain ⟨x, d1⟩ := p
    cases hv
    obtain ⟨S1, e1, R1⟩ := ha env S R x _ rfl
    exact ⟨S1, by rw [ev_cmp, e1]; rfl, R1⟩
/-! what is walked -/
theorem jxi_e {it : Itx} {t : Option (List α)} (h : JI0 Φ Γ (C d) it ea t) : JXI Φ Γ C d it ea (t.map fun v => (v, d)) := fun env S R v d' hv => by
  cases t with
  | none => cases hv
  | some u =>
    cases hv
    exact ⟨S, h env S R _ rfl, R⟩
theorem jxi_seq {a : Ex} {ta : Option (α × δ)} (π : α → List β) (hp : ∀ v, ea v = .list ((π v).map eb) ∨ ea v = .tuple ((π v).map eb)) (h : JX Φ Γ C d a ea ta) : JXI Φ Γ C d (.seq a) eb (ta.map fun p => (π p.1, p.2)) := fun env S R xs d' hx => by
  cases ta with
  | none => cases hx
  | some p =>
    obtain ⟨v, d1⟩ := p
    cases hx
    obtain ⟨S1, e1, R1⟩ := h env S R v _ rfl
    refine ⟨S1, ?_, R1⟩
    rw [x_seq, e1]
    rcases hp v with q | q <;> rw [q] <;> rfl
theorem jxi_rng {a : Ex} {t : Option (Int × δ)} (h : JX Φ Γ C d a eI t) : JXI Φ Γ C d (.rng a) eI (t.bind fun p => (rngO 0 p.1).map fun xs => (xs, p.2)) := fun env S R xs d' hx => by
  cases t with
  | none => cases hx
  | some p =>
    obtain ⟨n, d1⟩ := p
    simp only [Option.bind_some] at hx
    cases hr : rngO 0 n with
    | none => rw [hr] at hx; cases hx
    | some ys =>
      rw [hr] at hx
      cases hx
      obtain ⟨S1, e1, R1⟩ := h env S R n _ rfl
      refine ⟨S1, ?_, R1⟩
      unfold eI at e1
      rw [x_rng, e1]
      simp only [rngO_F hr, Option.map_some]
theorem compL_filX {C : δ → Ct} {C' : α → δ → Ct} {ia : PyData → A} {tg : Tg} {ifs : Exs} {e : Ex} {p : α → δ → Option (Bool × δ)} {g : α → δ → Option (β × δ)} {env : En} {sl : List Nat}
    (hb : ∀ x d, ∀ S, Rel (C d) env S → ∃ env1, bnd Φ Γ tg (ia (ea x)) (wipeE env sl) S = some (env1, S) ∧ Rel (C' x d) env1 S ∧ ∀ d' S', Rel (C' x d') env1 S' → Rel (C d') env S')
    (hp : ∀ x d env S, Rel (C' x d) env S → ∀ b d', p x d = some (b, d') → ∃ S', evTs Φ Γ ifs env S = some (b, S') ∧ Rel (C' x d') env S') (hg : ∀ x d, JX Φ Γ (C' x) d e eb (g x d)) : ∀ (xs : List α) (S : Sto) (d : δ) (ys : List β) (d' : δ), Rel (C d) env S → filX p g xs d = some (ys, d') → ∃ S', compL (cF Φ Γ ia tg ifs e (wipeE env sl)) (xs.map ea) S = some (ys.map eb, S') ∧ Rel (C d') env S'
  | [], S, d, ys, d', R, h => by
    cases h
    exact ⟨S, rfl, R⟩
  | x :: xs, S, d, ys, d', R, h => by
    obtain ⟨env1, q1, R1, back⟩ := hb x d S R
    rw [filX] at h
    rw [List.map_cons, compL]
    cases ep : p x d with
    | none => rw [ep] at h; cases h
    | some r =>
      obtain ⟨b, d1⟩ := r
      rw [ep] at h
      obtain ⟨S1, e1, R2⟩ := hp x d env1 S R1 b d1 ep
      cases b with
      | false =>
        simp only at h
        obtain ⟨S2, e2, R3⟩ := compL_filX hb hp hg xs S1 d1 ys d' (back _ _ R2) h
        have ec : cF Φ Γ ia tg ifs e (wipeE env sl) (ea x) S = some (none, S1) := by
          unfold cF
          simp only [q1, e1]
        exact ⟨S2, by rw [ec]; simp only [e2], R3⟩
      | true =>
        simp only at h
        cases eg : g x d1 with
        | none => rw [eg] at h; cases h
        | some w =>
          obtain ⟨y, d2⟩ := w
          rw [eg] at h
          simp only at h
          obtain ⟨S2, e2, R3⟩ := hg x d1 env1 S1 R2 y d2 eg
          cases er : filX p g xs d2 with
          | none => rw [er] at h; cases h
          | some w =>
            obtain ⟨zs, d3⟩ := w
            rw [er] at h
            simp only [Option.some.injEq, Prod.mk.injEq] at h
            obtain ⟨rfl, rfl⟩ := h
            obtain ⟨S3, e3, R4⟩ := compL_filX hb hp hg xs S2 d2 zs _ (back _ _ R3) er
            have ec : cF Φ Γ ia tg ifs e (wipeE env sl) (ea x) S = some (some (eb y), S2) := by
              unfold cF
              simp only [q1, e1, e2, frz_d]
            exact ⟨S3, by rw [ec]; simp only [e3, List.map_cons], R4⟩
end
theorem wipeE_get (env : En) : ∀ (l : List Nat) (i : Nat), i ∉ l → (wipeE env l)[i]? = env[i]?
  | [], i, _ => rfl
  | j :: l, i, h => by
    rw [List.mem_cons, not_or] at h
    rw [wipeE, List.getElem?_set_ne (Ne.symm h.1), wipeE_get env l i h.2]
theorem wipeE_len (env : En) : ∀ l : List Nat, (wipeE env l).length = env.length
  | [] => rfl
  | j :: l => by rw [wipeE, List.length_set, wipeE_len env l]
theorem Rel.unwipe {C : Ct} {env : En} {S : Sto} {l : List Nat} (R : Rel C (wipeE env l) S) (h : noAll C.c l = true) : Rel C env S := by
  obtain ⟨q, p, ρ, inj, ok⟩ := R
  rw [wipeE_len] at q
  refine ⟨q, p, ρ, inj, fun i s e => ?_⟩
  have := ok i s e
  by_cases hi : i ∈ l
  · have := noAll_of h i hi
    rw [this] at e
    cases e
    trivial
  · rwa [wipeE_get env l i hi] at this
theorem wipeE_mem (env : En) : ∀ (l : List Nat) (i : Nat), i ∈ l → i < env.length → (wipeE env l)[i]? = some none
  | j :: l, i, h, hi => by
    rw [wipeE]
    by_cases e : i = j
    · subst e
      rw [List.getElem?_set_self (by rw [wipeE_len]; exact hi)]
    · rw [List.getElem?_set_ne (Ne.symm e)]
      exact wipeE_mem env l i (by rcases List.mem_cons.mp h with z | z; exact absurd z e; exact z) hi
theorem wipeE_eq {env env' : En} (l : List Nat) (hl : env'.length = env.length) (h : ∀ i, i ∉ l → env'[i]? = env[i]?) : wipeE env' l = wipeE env l := by
  apply List.ext_getElem?
  intro i
  by_cases hi : i ∈ l
  · by_cases hn : i < env.length
    · rw [wipeE_mem env l i hi hn, wipeE_mem env' l i hi (by omega)]
    · rw [List.getElem?_eq_none (by rw [wipeE_len]; omega), List.getElem?_eq_none (by rw [wipeE_len]; omega)]
  · rw [wipeE_get env l i hi, wipeE_get env' l i hi, h i hi]
mutual
theorem bnd_wipe (Φ : List Fs) (Γ : List PyData) : ∀ (t : Tg) (a : A) (env : En) (S : Sto) (env' : En) (S' : Sto), bnd Φ Γ t a env S = some (env', S') → env'.length = env.length ∧ ∀ i, i ∉ t.slots → env'[i]? = env[i]?
  | .nm j, a, env, S, env', S', h => by
    rw [x_bnm] at h
    cases h
    refine ⟨by simp, fun i hi => ?_⟩
    rw [x_sn, List.mem_singleton] at hi
    rw [List.getElem?_set_ne (Ne.symm hi)]
  | .tp ts, a, env, S, env', S', h => by
    rw [x_st]
    cases a with
    | d x =>
      cases x with
      | tuple xs =>
        rw [x_btp] at h
        split at h
        · exact bnds_wipe Φ Γ ts _ env S env' S' h
        · cases h
      | _ => simp [bnd] at h
    | pr x y =>
      simp only [bnd] at h
      split at h
      · exact bnds_wipe Φ Γ ts _ env S env' S' h
      · cases h
    | obj k => simp [bnd] at h
    | seq ns => simp [bnd] at h
  | .sub o i, a, env, S, env', S', h => by
    rw [bnd] at h
    split at h
    · cases h
    · split at h
      · cases h
      · rename_i y S2 _
        cases hs : setF _ y a S2 with
        | none => rw [hs] at h; cases h
        | some S3 =>
          rw [hs] at h
          cases h
          exact ⟨rfl, fun _ _ => rfl⟩
theorem bnds_wipe (Φ : List Fs) (Γ : List PyData) : ∀ (ts : Tgs) (as : List A) (env : En) (S : Sto) (env' : En) (S' : Sto), bnds Φ Γ ts as env S = some (env', S') → env'.length = env.length ∧ ∀ i, i ∉ ts.slots → env'[i]? = env[i]?
  | .nil, as, env, S, env', S', h => by
    cases as with
    | nil =>
      rw [x_bn] at h
      cases h
      exact ⟨rfl, fun _ _ => rfl⟩
    | cons a as => simp [bnds] at h
  | .cons t ts, as, env, S, env', S', h => by
    cases as with
    | nil => simp [bnds] at h
    | cons a as =>
      rw [x_bc] at h
      split at h
      · cases h
      · rename_i env1 S1 e1
        obtain ⟨l1, g1⟩ := bnd_wipe Φ Γ t a env S env1 S1 e1
        obtain ⟨l2, g2⟩ := bnds_wipe Φ Γ ts as env1 S1 env' S' h
        refine ⟨l2.trans l1, fun i hi => ?_⟩
        rw [x_s1, List.mem_append, not_or] at hi
        rw [g2 i hi.2, g1 i hi.1]
end
section
variable {δ : Type} {Φ : List Fs} {Γ : List PyData} {C : δ → Ct} {d : δ} {α β γ : Type} {ea : α → PyData} {eb : β → PyData} {ec : γ → PyData}
def JXTs (Φ : List Fs) (Γ : List PyData) (C : δ → Ct) (d : δ) (es : Exs) (t : Option (Bool × δ)) : Prop := ∀ env S, Rel (C d) env S → ∀ b d', t = some (b, d') → ∃ S', evTs Φ Γ es env S = some (b, S') ∧ Rel (C d') env S'
theorem jxts_nil : JXTs Φ Γ C d .nil (some (true, d)) := fun env S R b d' hb => by
  cases hb
  exact ⟨S, by rw [evTs], R⟩
theorem jxts_one {e : Ex} {t : Option (Bool × δ)} (h : JXT Φ Γ C d e t) : JXTs Φ Γ C d (.cons e .nil) t := fun env S R b d' hb => by
  obtain ⟨a, S1, e1, t1, R1⟩ := h env S R b d' hb
  exact ⟨S1, by rw [evTs]; simp only [e1, t1, Option.map_some], R1⟩
theorem jx_comp {t : Tg} {it : Itx} {ifs : Exs} {e : Ex} {tx : Option (List α × δ)} {C' : α → δ → Ct} {p : α → δ → Option (Bool × δ)} {g : α → δ → Option (β × δ)} (hi : JXI Φ Γ C d it ea tx) (hn : ∀ d, noAll (C d).c t.slots = true) (hb : ∀ x d, JB Φ Γ (wipC (C d) t.slots) (C' x d) t (itA it (ea x))) (hw : ∀ x d, wipC (C' x d) t.slots = C d) (hp : ∀ x d, JXTs Φ Γ (C' x) d ifs (p x d)) (hg : ∀ x d, JX Φ Γ (C' x) d e eb (g x d)) : JX Φ Γ C d (.comp t it ifs e) (eL eb) (tx.bind fun q => filX p g q.1 q.2) := fun env S R v d' hv => by
  cases tx with
  | none => cases hv
  | some q =>
    obtain ⟨xs, d1⟩ := q
    obtain ⟨S1, e1, R1⟩ := hi env S R xs d1 rfl
    have key : ∀ x d, ∀ S, Rel (C d) env S → ∃ env1, bnd Φ Γ t (itA it (ea x)) (wipeE env t.slots) S = some (env1, S) ∧ Rel (C' x d) env1 S ∧ ∀ d' S', Rel (C' x d') env1 S' → Rel (C d') env S' := fun x d S R => by
      obtain ⟨env1, q1, R1⟩ := hb x d _ S (R.wip t.slots)
      refine ⟨env1, q1, R1, fun d2 S2 R2 => ?_⟩
      obtain ⟨l1, g1⟩ := bnd_wipe Φ Γ t _ _ _ _ _ q1
      have R3 := R2.wip t.slots
      rw [hw] at R3
      have e3 : wipeE env1 t.slots = wipeE env t.slots := wipeE_eq _ (by rw [l1, wipeE_len]) fun i hi => by rw [g1 i hi, wipeE_get env _ i hi]
      rw [e3] at R3
      exact R3.unwipe (hn d2)
    obtain ⟨S2, e2, R2⟩ := compL_filX key (fun x d => hp x d) hg xs S1 d1 v d' R1 hv
    refine ⟨S2, ?_, R2⟩
    rw [ev_comp, e1]
    simp only [watC_none, e2]
    rfl
theorem jx_map {t : Tg} {it : Itx} {e : Ex} {tx : Option (List α × δ)} {C' : α → δ → Ct} {g : α → δ → Option (β × δ)} (hi : JXI Φ Γ C d it ea tx) (hn : ∀ d, noAll (C d).c t.slots = true) (hb : ∀ x d, JB Φ Γ (wipC (C d) t.slots) (C' x d) t (itA it (ea x))) (hw : ∀ x d, wipC (C' x d) t.slots = C d) (hg : ∀ x d, JX Φ Γ (C' x) d e eb (g x d)) : JX Φ Γ C d (.comp t it .nil e) (eL eb) (tx.bind fun q => mapX g q.1 q.2) :=
  (jx_comp hi hn hb hw (fun _ _ => jxts_nil) hg).of (by cases tx with | none => rfl | some q => exact filX_mapX g q.1 q.2)
theorem jx_fil {t : Tg} {it : Itx} {c e : Ex} {tx : Option (List α × δ)} {C' : α → δ → Ct} {p : α → δ → Option (Bool × δ)} {g : α → δ → Option (β × δ)} (hi : JXI Φ Γ C d it ea tx) (hn : ∀ d, noAll (C d).c t.slots = true) (hb : ∀ x d, JB Φ Γ (wipC (C d) t.slots) (C' x d) t (itA it (ea x))) (hw : ∀ x d, wipC (C' x d) t.slots = C d) (hp : ∀ x d, JXT Φ Γ (C' x) d c (p x d)) (hg : ∀ x d, JX Φ Γ (C' x) d e eb (g x d)) : JX Φ Γ C d (.comp t it (.cons c .nil) e) (eL eb) (tx.bind fun q => filX p g q.1 q.2) :=
  jx_comp hi hn hb hw (fun x d => jxts_one (hp x d)) hg
end
/-! draws -/
section
variable {Φ : List Fs} {Γ : List PyData} {B : Sto} {k : Nat} {c : List Sl} {d : Dr} {α β γ : Type} {ea : α → PyData} {eb : β → PyData} {ec : γ → PyData}
theorem jx_nxt {f i : Nat} {e : Ex} {te : Option (Int × Dr)} {Φ' : List Fs} {Γ' : List PyData} (hf : Φ[f]? = some (run Φ' Γ' 4 bNext)) (hi : c[i]? = some (.rf k)) (hk : k < B.length) (hp : noPv c = true) (hB : B.all Ob.flat = true) (h : JX Φ Γ (CB B k c) d e eI te) : JX Φ Γ (CB B k c) d (.call f (.cons (.var i) (.cons e .nil))) eI (te.bind fun q => Nx q.2 q.1) := fun env S R v d' hv => by
  cases te with
  | none => cases hv
  | some q =>
    obtain ⟨m, d1⟩ := q
    obtain ⟨S1, e1, R1⟩ := h env S R m d1 rfl
    have hv : Nx d1 m = some (v, d') := hv
    unfold Nx at hv
    split at hv
    · rename_i hm
      have hv' : nxtV d1 m = (v, d') := Option.some.inj hv
      have hv1 : (nxtV d1 m).1 = v := by rw [hv']
      have hv2 : (nxtV d1 m).2 = d' := by rw [hv']
      subst hv1 hv2
      obtain ⟨g1, R2⟩ := draw_rel (d' := (nxtV d1 m).2) R1 hk hp
      have ea : evs Φ Γ (.cons (.var i) (.cons e .nil)) env S = some ([.obj k, .d (.int m)], S1) := by
        have hr := Rel.rf (B := B.set k (dO d)) (c := c) R hi
        rw [x_evs_cons, ev_var, hr.1]
        simp only [x_evs_cons, e1, x_evs_nil]
        rfl
      refine ⟨_, ?_, R2⟩
      rw [r_call ea hf (next_is Φ' Γ' g1 hm.1 hm.2), gc_len (by simp)]
      rfl
    · cases hv
/-- a def that draws: its first argument is the draw -/
def FnX (Φ : List Fs) (i : Nat) {α γ : Type} (pk : α → List PyData) (F : α → Dr → Option (γ × Dr)) (ec : γ → PyData) : Prop := ∃ m, Φ[i]? = some m ∧ ∀ S (k : Nat) d v r d', S.all Ob.flat = true → S[k]? = some (dO d) → F v d = some (r, d') → ∃ X : Sto, X.all Ob.flat = true ∧ m (.obj k :: (pk v).map .d) S = some (.d (ec r), S.set k (dO d') ++ X)
theorem gc_set {x : PyData} {S X : Sto} {k : Nat} {o : Ob} (h : (S.set k o).all Ob.flat = true) : gc (.d x) S (S.set k o ++ X) = S.set k o := by
  unfold gc
  have e : (S.set k o ++ X).take S.length = S.set k o := by
    rw [List.take_append_of_le_length (by simp), List.take_of_length_le (by simp)]
  simp only [e, h, if_true]
theorem jx_callX {f i : Nat} {es : Exs} {te : Option (α × Dr)} {pk : α → List PyData} {F : α → Dr → Option (γ × Dr)} (h : JXA Φ Γ (CB B k c) d es pk te) (hf : FnX Φ f pk F ec) (hi : c[i]? = some (.rf k)) (hk : k < B.length) (hp : noPv c = true) (hB : B.all Ob.flat = true) : JX Φ Γ (CB B k c) d (.call f (.cons (.var i) es)) ec (te.bind fun q => F q.1 q.2) := fun env S R v d' hv => by
  cases te with
  | none => cases hv
  | some q =>
    obtain ⟨m, d1⟩ := q
    obtain ⟨S1, e1, R1⟩ := h env S R m d1 rfl
    obtain ⟨g1, R2⟩ := draw_rel (d' := d') R1 hk hp
    obtain ⟨fm, e2, hm⟩ := hf
    have fB : (CB B k c d1).B.all Ob.flat = true := flat_all_set hB rfl
    obtain ⟨X, hX, e3⟩ := hm S1 k d1 m v d' (R1.flat fB) g1 hv
    have ea : evs Φ Γ (.cons (.var i) es) env S = some (.obj k :: (pk m).map .d, S1) := by
      have hr := Rel.rf (B := B.set k (dO d)) (c := c) R hi
      rw [x_evs_cons, ev_var, hr.1]
      simp only [e1]
    refine ⟨_, ?_, R2⟩
    rw [r_call ea e2 e3, gc_set]
    obtain ⟨Y, e4, hY⟩ := R2.pre
    rw [e4, List.all_append, hY]
    have : (CB B k c d').B.all Ob.flat = true := flat_all_set hB rfl
    rw [this]
    rfl
theorem CB_flat (hB : B.all Ob.flat = true) (d : Dr) : (CB B k c d).B.all Ob.flat = true := flat_all_set hB rfl
end
/-! statements -/
section
variable {δ : Type} {Φ : List Fs} {Γ : List PyData} {C : δ → Ct} {d : δ} {α β γ ρ σ τ Ω : Type} {ea : α → PyData} {eb : β → PyData} {ss a b : Ss} {sem : Ω → Res → Prop}
theorem js_asgX {tg : Tg} {e : Ex} {te : Option (α × δ)} {C' : α → δ → Ct} {k : α → δ → Option Ω} (he : JX Φ Γ C d e ea te) (hb : ∀ v d', JB Φ Γ (C d') (C' v d') tg (.d (ea v))) (hs : ∀ v d', JG Φ Γ (C' v d') ss sem (k v d')) : JG Φ Γ (C d) (.cons (.asg tg e) ss) sem (te.bind fun p => k p.1 p.2) := fun env S R o ho => by
  cases te with
  | none => cases ho
  | some p =>
    obtain ⟨v, d1⟩ := p
    obtain ⟨S1, e1, R1⟩ := he env S R v d1 rfl
    obtain ⟨env1, q1, R2⟩ := hb v d1 env S1 R1
    rw [exs_nx (r_asgt e1 q1)]
    exact hs v d1 env1 S1 R2 o ho
theorem js_newX {B : δ → Sto} {c : List Sl} {i : Nat} {e : Ex} {te : Option (List α × δ)} {k : List α → δ → Option Ω} (he : JX Φ Γ (fun d => ⟨B d, c⟩) d e (eL ea) te) (hs : ∀ v d', JG Φ Γ ⟨B d', c.set i (.ow (.lst (List.map ea v) false))⟩ ss sem (k v d')) : JG Φ Γ ⟨B d, c⟩ (.cons (.asg (.nm i) (.fresh e)) ss) sem (te.bind fun p => k p.1 p.2) := fun env S R o ho => by
  cases te with
  | none => cases ho
  | some p =>
    obtain ⟨v, d1⟩ := p
    obtain ⟨S1, e1, R1⟩ := he env S R v d1 rfl
    have : ex Φ Γ (.asg (.nm i) (.fresh e)) env S = some (.nx, env.set i (some (.obj S1.length)), S1 ++ [.lst (v.map ea) false]) := r_asg (by rw [ev_fresh, e1]; rfl)
    rw [exs_nx this]
    exact hs v d1 _ _ (Rel.new (B := B d1) (c := c) R1 i _ rfl) o ho
theorem js_appX {B : δ → Sto} {c : List Sl} {i : Nat} {e : Ex} {xs : List α} {te : Option (α × δ)} {k : List α → δ → Option Ω} (h : c[i]? = some (.ow (.lst (xs.map ea) false))) (he : JX Φ Γ (fun d => ⟨B d, c⟩) d e ea te) (hs : ∀ ys d', JG Φ Γ ⟨B d', c.set i (.ow (.lst (List.map ea ys) false))⟩ ss sem (k ys d')) : JG Φ Γ ⟨B d, c⟩ (.cons (.app (.var i) e) ss) sem (te.bind fun p => (pshO xs p.1).bind fun ys => k ys p.2) := fun env S R o ho => by
  cases te with
  | none => cases ho
  | some p =>
    obtain ⟨v, d1⟩ := p
    have ho : ((pshO xs v).bind fun ys => k ys d1) = some o := ho
    rw [pshO_def] at ho
    split at ho
    · rename_i hl
      obtain ⟨S1, e1, R1⟩ := he env S R v d1 rfl
      obtain ⟨q, g1, g2, m⟩ := Rel.mut (B := B d1) (c := c) R1 h
      obtain ⟨q0, g0, g00, _⟩ := Rel.mut (B := B d) (c := c) R h
      have eq0 : q0 = q := by
        rw [g0] at g1
        simpa using g1
      subst eq0
      have ev1 : ev Φ Γ (.var i) env S = some (.obj q0, S) := by rw [ev_var, g0]
      have d0 : deref S (.obj q0) = some (.list (xs.map ea)) := (deref_obj _ _ _).mpr ⟨_, g00, rfl⟩
      have : ex Φ Γ (.app (.var i) e) env S = some (.nx, env, S1.set q0 (.lst (List.map ea (xs ++ [v])) false)) := by
        rw [ex, ev1]
        simp only [d0, e1, appF, frz_d, g2, List.length_map, hl, if_true, Option.map_some, List.map_append, List.map_cons, List.map_nil]
      rw [exs_nx this]
      exact hs _ d1 _ _ (m _ rfl) o ho
    · cases ho
theorem js_parX {ts : Tgs} {es : Exs} {te : Option (α × δ)} {pk : α → List PyData} {C' : α → δ → Ct} {k : α → δ → Option Ω} (he : JXA Φ Γ C d es pk te) (hb : ∀ v d', JBs Φ Γ (C d') (C' v d') ts (pk v)) (hs : ∀ v d', JG Φ Γ (C' v d') ss sem (k v d')) : JG Φ Γ (C d) (.cons (.par ts es) ss) sem (te.bind fun p => k p.1 p.2) := fun env S R o ho => by
  cases te with
  | none => cases ho
  | some p =>
    obtain ⟨v, d1⟩ := p
    obtain ⟨S1, e1, R1⟩ := he env S R v d1 rfl
    obtain ⟨env1, q1, R2⟩ := hb v d1 env S1 R1
    rw [exs_nx (r_par e1 q1)]
    exact hs v d1 env1 S1 R2 o ho
theorem js_retX' {ρ : Type} {er : ρ → PyData} {e : Ex} {te : Option (ρ × δ)} (he : JX Φ Γ C d e er te) : JG Φ Γ (C d) (.cons (.ret e) ss) (semR (fun r : ρ × δ => er r.1) fun r => (C r.2).B) te := fun env S R o ho => by
  obtain ⟨v, d1⟩ := o
  obtain ⟨S1, e1, R1⟩ := he env S R v d1 ho
  obtain ⟨X, h1, h2⟩ := R1.pre
  exact ⟨env, S1, X, by rw [r_rt (r_ret e1)], h1, h2⟩
theorem js_retXX {ρ : Type} {er : ρ → PyData} {e : Ex} {te : Option (ρ × δ)} (he : JX Φ Γ C d e er te) : JG Φ Γ (C d) (.cons (.ret e) ss) (semX (semR (fun r : ρ × δ => er r.1) fun r => (C r.2).B)) te := semR_notnx (js_retX' he)
/-- a branch on what is drawn -/
theorem js_ifxX {c : Ex} {tc : Option (Bool × δ)} {ta tk : δ → Option Ω} (hc : JXT Φ Γ C d c tc) (ha : ∀ d', JG Φ Γ (C d') a (semX sem) (ta d')) (hs : ∀ d', JG Φ Γ (C d') ss sem (tk d')) : JG Φ Γ (C d) (.cons (.ifs c a .nil) ss) sem (tc.bind fun p => if p.1 = true then ta p.2 else tk p.2) := fun env S R o ho => by
  cases tc with
  | none => cases ho
  | some p =>
    obtain ⟨x, d1⟩ := p
    obtain ⟨u, S1, e1, t1, R1⟩ := hc env S R x d1 rfl
    have h : ex Φ Γ (.ifs c a .nil) env S = if x = true then exs Φ Γ a env S1 else exs Φ Γ .nil env S1 := by
      rw [ex, r_evv e1 t1]
      cases x <;> rfl
    have ho : (if x = true then ta d1 else tk d1) = some o := ho
    cases x with
    | true =>
      obtain ⟨q1, q2⟩ := ha d1 env S1 R1 o ho
      have h : ex Φ Γ (.ifs c a .nil) env S = exs Φ Γ a env S1 := h
      rw [exs, h]
      cases er : exs Φ Γ a env S1 with
      | none => rw [er] at q1; exact q1
      | some r =>
        obtain ⟨fl, e', S'⟩ := r
        cases fl with
        | nx => exact absurd er (q2 _ _)
        | _ => rw [er] at q1; exact q1
    | false =>
      have h : ex Φ Γ (.ifs c a .nil) env S = some (.nx, env, S1) := by rw [h]; simp only [Bool.false_eq_true, if_false]; exact r_nil
      rw [exs_nx h]
      exact hs d1 env S1 R1 o ho
theorem js_forOX {er : ρ → PyData} {rb : ρ → Sto} {tg : Tg} {it : Itx} {wl : List Nat} {tx : Option (List α × δ)} {L : σ → Ct} {C' : α → σ → Ct} {s0 : δ → σ} {f : α → σ → Option (Ou ρ σ σ)} {mk : ρ → Ω} {k : σ → Option Ω} (hmk : ∀ r res, semR er rb r res → sem (mk r) res) (hi : JXI Φ Γ C d it ea tx) (h0 : ∀ d', Wks (C d').c (L (s0 d')).c) (hB : ∀ d', (C d').B = (L (s0 d')).B) (hwl : ∀ s, noAll (L s).c wl = true) (hb : ∀ x s, JB Φ Γ (L s) (C' x s) tg (itA it (ea x))) (hf : ∀ x s, JG Φ Γ (C' x s) b (semS er rb (PR L) (PR L)) (f x s)) (hs : ∀ s, JG Φ Γ (L s) ss sem (k s)) : JG Φ Γ (C d) (.cons (.for_ tg it b wl) ss) sem (tx.bind fun p => ouK (forO f p.1 (s0 p.2)) mk k) := fun env S R o ho => by
  cases tx with
  | none => cases ho
  | some p =>
    obtain ⟨xs, d1⟩ := p
    obtain ⟨S1, e1, R1⟩ := hi env S R xs d1 rfl
    have R0 : Rel (L (s0 d1)) env S1 := by
      have := Rel.wk (B := (C d1).B) (c := (C d1).c) R1 (h0 d1)
      rwa [hB] at this
    refine for_end (L := L) hmk hs (fun o' ho' => ?_) o ho
    rw [ex_for, e1]
    exact forL_O (fun _ => true) (fun _ _ _ _ => rfl) (fF_turn (w := none) (S0 := S1) (fun _ _ _ _ => rfl) hwl hb hf) xs (s0 d1) env S1 R0 o' ho'
theorem js_forNX {tg : Tg} {it : Itx} {wl : List Nat} {tx : Option (List α × δ)} {L : σ → Ct} {C' : α → σ → Ct} {s0 : δ → σ} {f : α → σ → Option σ} {k : σ → Option Ω} (hi : JXI Φ Γ C d it ea tx) (h0 : ∀ d', Wks (C d').c (L (s0 d')).c) (hB : ∀ d', (C d').B = (L (s0 d')).B) (hwl : ∀ s, noAll (L s).c wl = true) (hb : ∀ x s, JB Φ Γ (L s) (C' x s) tg (itA it (ea x))) (hf : ∀ x s, JG Φ Γ (C' x s) b (semN (PR L)) (f x s)) (hs : ∀ s, JG Φ Γ (L s) ss sem (k s)) : JG Φ Γ (C d) (.cons (.for_ tg it b wl) ss) sem (tx.bind fun p => (forN f p.1 (s0 p.2)).bind k) :=
  (js_forOX (ρ := Empty) (er := fun r => nomatch r) (rb := fun r => nomatch r) (mk := fun r => nomatch r) (fun r => nomatch r) hi h0 hB hwl hb (f := fun x s => (f x s).map .nx) (fun x s env S R o ho => by
    cases e : f x s with
    | none => rw [e] at ho; cases ho
    | some s' =>
      rw [e] at ho
      cases ho
      exact hf x s env S R s' e) hs).of (by
    cases tx with
    | none => rfl
    | some p =>
      simp only [Option.bind_some]
      rw [forN_O]
      cases forN f p.1 (s0 p.2) <;> rfl)
end
/-! a def that draws -/
def startX (B : Sto) (k : Nat) (ps : List PyData) (n : Nat) (d : Dr) : Ct := CB B k (.rf k :: (ps.map .va ++ List.replicate (n - (ps.length + 1)) .no)) d
theorem startX_rel {S : Sto} {k : Nat} {d : Dr} {ps : List PyData} {n : Nat} (h : S[k]? = some (dO d)) : Rel (startX S k ps n d) ((A.obj k :: ps.map .d).map some ++ List.replicate (n - (A.obj k :: ps.map A.d).length) none) S := by
  have hk : k < S.length := by
    rcases Nat.lt_or_ge k S.length with z | z
    · exact z
    · rw [List.getElem?_eq_none z] at h
      cases h
  have eS : S.set k (dO d) = S := by
    apply List.ext_getElem?
    intro i
    by_cases hi : i = k
    · subst hi
      rw [List.getElem?_set_self hk, h]
    · rw [List.getElem?_set_ne (Ne.symm hi)]
  have now : ∀ {i : Nat} {o : Ob}, (startX S k ps n d).c[i]? = some (.ow o) → False := fun {i o} e => by
    have := List.mem_of_getElem? e
    rcases List.mem_cons.mp this with z | this
    · cases z
    · rcases List.mem_append.mp this with z | z
      · obtain ⟨p, _, q⟩ := List.mem_map.mp z
        cases q
      · cases (List.mem_replicate.mp z).2
  refine ⟨by simp [startX, CB], ⟨[], by simp [startX, CB, eS], rfl⟩, fun _ => 0, fun i j o o' e => (now e).elim, fun i s e => ?_⟩
  unfold startX CB at e
  simp only at e
  cases i with
  | zero =>
    simp at e
    subst e
    exact ⟨rfl, by simpa [startX, CB] using hk⟩
  | succ i =>
    have e : (ps.map Sl.va ++ List.replicate (n - (ps.length + 1)) Sl.no)[i]? = some s := by simpa using e
    have eu : ((A.obj k :: ps.map .d).map some ++ List.replicate (n - (A.obj k :: ps.map A.d).length) none)[i + 1]? = ((ps.map .d).map some ++ List.replicate (n - (ps.length + 1)) none)[i]? := by simp
    rw [eu]
    by_cases hi : i < ps.length
    · rw [List.getElem?_append_left (by simpa using hi), List.getElem?_map] at e
      rw [List.getElem?_append_left (by simpa using hi), List.getElem?_map, List.getElem?_map]
      rw [List.getElem?_eq_getElem hi] at e ⊢
      cases e
      rfl
    · rw [List.getElem?_append_right (by simpa using hi)] at e
      have := (List.mem_replicate.mp (List.mem_of_getElem? e)).2
      subst this
      trivial
theorem fnX_of {Φ : List Fs} {Γ : List PyData} {i n : Nat} {b : Ss} {Φ' : List Fs} {α γ : Type} {pk : α → List PyData} {F : α → Dr → Option (γ × Dr)} {ec : γ → PyData} (h1 : Φ'[i]? = some (run Φ Γ n b)) (h : ∀ S k d v, k < S.length → S.all Ob.flat = true → JG Φ Γ (startX S k (pk v) n d) b (semR (fun r : γ × Dr => ec r.1) fun r => S.set k (dO r.2)) (F v d)) : FnX Φ' i pk F ec := by
  refine ⟨_, h1, fun S k d v r d' hS hk hr => ?_⟩
  have hl : k < S.length := by
    rcases Nat.lt_or_ge k S.length with z | z
    · exact z
    · rw [List.getElem?_eq_none z] at hk
      cases hk
  obtain ⟨e, S', X, q1, q2, q3⟩ := h S k d v hl hS _ S (startX_rel hk) (r, d') hr
  refine ⟨X, q3, ?_⟩
  unfold run
  rw [q1, q2]
end PV

/-! PT6: helpers of the printed proofs. -/
namespace PV
open PySem PySem.Spec PyProof.Rows L2
section
variable {Φ : List Fs} {Γ : List PyData} {C : Ct} {α β γ : Type} {ea : α → PyData} {eb : β → PyData} {ec : γ → PyData}
theorem je_binT {o : Operator} {a b : Ex} {x : α} {y : β} (f : α → β → γ) (hop : ∀ x y z, some (f x y) = some z → binD o (ea x) (eb y) = some (ec z)) (ha : JV Φ Γ C a ea (some x)) (hb : JV Φ Γ C b eb (some y)) : JE Φ Γ C (.bin o a b) ec (some (f x y)) := je_bin (fun x y => some (f x y)) hop ha hb
theorem je_cmpT {o : CmpOp} {a b : Ex} {ta : Option α} {tb : Option β} (f : α → β → Bool) (hop : ∀ x y, cmpD o (ea x) (eb y) = some (f x y)) (ha : JV Φ Γ C a ea ta) (hb : JV Φ Γ C b eb tb) : JE Φ Γ C (.cmp o a b) eB (ta.bind fun x => tb.bind fun y => some (f x y)) := je_cmp (fun x y => some (f x y)) (fun x y z h => by rw [hop]; exact h) ha hb
/-- what may be None, where it is not -/
theorem je_unO {e : Ex} {t : Option (Option α)} (h : JE Φ Γ C e (eO ea) t) : JE Φ Γ C e ea (t.bind fun x => x) := fun env S R v hv => by
  cases t with
  | none => cases hv
  | some x =>
    have hv : x = some v := hv
    subst hv
    exact h env S R _ rfl
/-! anything -/
theorem je_isiR {a : Ex} {ts : List Ty} {ta : Option PyData} (ha : JV Φ Γ C a eR ta) : JE Φ Γ C (.isi a ts) eB (ta.bind fun x => if notDic x = true then some (ts.any fun t => typeOk x t) else none) := fun env S R v hv => by
  cases ta with
  | none => cases hv
  | some x =>
    have hv : (if notDic x = true then some (ts.any fun t => typeOk x t) else none) = some v := hv
    split at hv
    · rename_i h1
      cases hv
      obtain ⟨u, e1, d1⟩ := ha env S R x rfl
      rw [ev_isi, e1]
      have d1 : deref S u = some x := d1
      simp only [d1]
      cases x with
      | dict _ => cases h1
      | _ => rfl
    · cases hv
def itemsR : PyData → Option (List PyData)
  | .list xs => some xs
  | .tuple xs => some xs
  | .str z => if z.length ≤ 16777216 then some (z.cps.toList.map fun c => .str ⟨#[c]⟩) else none
  | _ => none
theorem ji_seqR {a : Ex} {ta : Option PyData} (h : JE Φ Γ C a eR ta) : JI0 Φ Γ C (.seq a) eR (ta.bind itemsR) := fun env S R xs hx => by
  cases ta with
  | none => cases hx
  | some v =>
    have hx : itemsR v = some xs := hx
    rw [x_seq, h env S R v rfl]
    unfold eR
    cases v <;> first | (simp [itemsR] at hx; done) | (simp only [itemsR, Option.some.injEq] at hx; subst hx; simp [seqF]; done) | (simp only [itemsR] at hx; split at hx <;> first | (cases hx; done) | (rename_i hz; cases hx; simp [seqF, hz]))
/-- items that are read apart -/
theorem ji0_of {it : Itx} {tx : Option (List α)} {g : α → Option β} (h : JI0 Φ Γ C it ea tx) (hg : ∀ x y, g x = some y → ea x = eb y) : JI0 Φ Γ C it eb (tx.bind fun xs => mapO g xs) := fun env S R ys hy => by
  cases tx with
  | none => cases hy
  | some xs =>
    have hy : mapO g xs = some ys := hy
    rw [h env S R xs rfl]
    have : ∀ (xs : List α) (ys : List β), mapO g xs = some ys → xs.map ea = ys.map eb := by
      intro xs
      induction xs with
      | nil =>
        intro ys e
        cases e
        rfl
      | cons x xs ih =>
        intro ys e
        rw [mapO] at e
        cases e1 : g x with
        | none => rw [e1] at e; cases e
        | some y =>
          rw [e1] at e
          cases e2 : mapO g xs with
          | none => rw [e2] at e; cases e
          | some zs =>
            rw [e2] at e
            cases e
            rw [List.map_cons, List.map_cons, hg x y e1, ih zs e2]
    rw [this xs ys hy]
def unR2 : PyData → Option (PyData × PyData)
  | .tuple [a, b] => some (a, b)
  | _ => none
theorem unR2_ok (x : PyData) (y : PyData × PyData) (h : unR2 x = some y) : eR x = eP2 eR eR y := by
  unfold unR2 at h
  split at h
  · cases h; rfl
  · cases h
def unR3 : PyData → Option (PyData × PyData × PyData)
  | .tuple [a, b, c] => some (a, b, c)
  | _ => none
theorem unR3_ok (x : PyData) (y : PyData × PyData × PyData) (h : unR3 x = some y) : eR x = eP3 eR eR eR y := by
  unfold unR3 at h
  split at h
  · cases h; rfl
  · cases h
def zipR (x y : PyData) : Option (List (PyData × PyData)) := match x, y with
  | .list xs, .list ys => if xs.length ≤ 16777216 then some (xs.zip ys) else none
  | .tuple xs, .tuple ys => if xs.length ≤ 16777216 then some (xs.zip ys) else none
  | _, _ => none
theorem zip_R (xs ys : List PyData) : zipD xs ys = (xs.zip ys).map (eP2 eR eR) := by
  have := zip_F (ea := eR) (eb := eR) xs ys
  have e : ∀ l : List PyData, l.map eR = l := fun l => by show l.map (fun x => x) = l; simp
  rwa [e, e] at this
theorem ji_zipR {a b : Ex} {ta tb : Option PyData} (h : JE Φ Γ C a eR ta) (h2 : JE Φ Γ C b eR tb) : JI0 Φ Γ C (.zip a b) (eP2 eR eR) (ta.bind fun x => tb.bind fun y => zipR x y) := fun env S R xs hx => by
  cases ta with
  | none => cases hx
  | some x =>
    cases tb with
    | none => cases hx
    | some y =>
      have e1 := h env S R x rfl
      have e2 := h2 env S R y rfl
      have hx : zipR x y = some xs := hx
      unfold eR at e1 e2
      rw [x_zip, e1]
      cases x with
      | list xs' =>
        cases y with
        | list ys' =>
          simp only [zipR] at hx
          split at hx
          · rename_i hl
            cases hx
            simp only [e2, hl, if_true, zip_R]
          · cases hx
        | _ => simp [zipR] at hx
      | tuple xs' =>
        cases y with
        | tuple ys' =>
          simp only [zipR] at hx
          split at hx
          · rename_i hl
            cases hx
            simp only [e2, hl, if_true, zip_R]
          · cases hx
        | _ => simp [zipR] at hx
      | _ => simp [zipR] at hx
theorem o_lenR (x : PyData) (z : Int) (h : lenD x = some z) : bltD .len (eR x) = some (eI z) := by
  show (lenD x).map PyData.int = _
  rw [h]
  rfl
theorem o_anyR (x : PyData) (z : Bool) (h : bltD .any x = some (.bool z)) : bltD .any (eR x) = some (eB z) := h
def intR : PyData → Option Int
  | .int i => some i
  | _ => none
theorem je_intR {e : Ex} {t : Option PyData} (h : JE Φ Γ C e eR t) : JE Φ Γ C e eI (t.bind intR) := fun env S R v hv => by
  cases t with
  | none => cases hv
  | some x =>
    have hv : intR x = some v := hv
    cases x <;> simp only [intR] at hv <;> first | (cases hv; exact h env S R _ rfl) | cases hv
theorem jt_R {e : Ex} {t : Option PyData} (h : JV Φ Γ C e eR t) : JT Φ Γ C e (t.bind truD) := fun env S R b hb => by
  cases t with
  | none => cases hb
  | some x =>
    obtain ⟨a, e1, d1⟩ := h env S R x rfl
    exact ⟨a, e1, by rw [tru, d1]; exact hb⟩
theorem je_isNR {a : Ex} {ta : Option PyData} (ha : JE Φ Γ C a eR ta) : JE Φ Γ C (.cmp .Is a (.cst .none)) eB (ta.bind fun x => isD (.d x) .none) := fun env S R v hv => by
  cases ta with
  | none => cases hv
  | some x =>
    have hv : isD (.d x) .none = some v := hv
    rw [ev_cmp, ha env S R x rfl]
    simp only [ev_cst, cmpF_is, eR, hv, Option.map_some]
    rfl
theorem je_isnNR {a : Ex} {ta : Option PyData} (ha : JE Φ Γ C a eR ta) : JE Φ Γ C (.cmp .IsNot a (.cst .none)) eB (ta.bind fun x => (isD (.d x) .none).map (!·)) := fun env S R v hv => by
  cases ta with
  | none => cases hv
  | some x =>
    have hv : (isD (.d x) .none).map (!·) = some v := hv
    rw [ev_cmp, ha env S R x rfl]
    simp only [ev_cst, cmpF_isn, eR, hv, Option.map_some]
    rfl
/-- None where nothing else can be -/
theorem je_isF {a : Ex} {ta : Option α} (nn : ∀ v, isD (.d (ea v)) .none = some false) (ha : JE Φ Γ C a ea ta) : JE Φ Γ C (.cmp .Is a (.cst .none)) eB (ta.map fun _ => false) := fun env S R v hv => by
  cases ta with
  | none => cases hv
  | some x =>
    cases hv
    rw [ev_cmp, ha env S R x rfl]
    simp only [ev_cst, cmpF_is, nn x, Option.map_some]
    rfl
theorem je_isnF {a : Ex} {ta : Option α} (nn : ∀ v, isD (.d (ea v)) .none = some false) (ha : JE Φ Γ C a ea ta) : JE Φ Γ C (.cmp .IsNot a (.cst .none)) eB (ta.map fun _ => true) := fun env S R v hv => by
  cases ta with
  | none => cases hv
  | some x =>
    cases hv
    rw [ev_cmp, ha env S R x rfl]
    simp only [ev_cst, cmpF_isn, nn x, Option.map_some]
    rfl
end
/-! ends -/
section
variable {Φ : List Fs} {Γ : List PyData} {C : Ct} {α β γ ρ σ Ω : Type} {ss : Ss}
theorem js_endN {L : σ → Ct} (s : σ) (w : Wks C.c (L s).c) (hB : C.B = (L s).B) : JG Φ Γ C .nil (semN (PR L)) (some s) := js_nil fun env S R => ⟨env, S, rfl, by
  have := Rel.wk (B := C.B) (c := C.c) R w
  rwa [hB] at this⟩
theorem js_endS {er : ρ → PyData} {rb : ρ → Sto} {Pl : β → En → Sto → Prop} {L : σ → Ct} (s : σ) (w : Wks C.c (L s).c) (hB : C.B = (L s).B) : JG Φ Γ C .nil (semS er rb Pl (PR L)) (some (.nx s)) := js_nil fun env S R => ⟨env, S, rfl, by
  have := Rel.wk (B := C.B) (c := C.c) R w
  rwa [hB] at this⟩
theorem js_brkL {er : ρ → PyData} {rb : ρ → Sto} {P : σ → En → Sto → Prop} {L : β → Ct} (s : β) (w : Wks C.c (L s).c) (hB : C.B = (L s).B) : JG Φ Γ C (.cons .brk ss) (semX (semS er rb (PR L) P)) (some (.bk s)) := js_brk fun env S R => by
  have := Rel.wk (B := C.B) (c := C.c) R w
  rwa [hB] at this
theorem js_cntL {er : ρ → PyData} {rb : ρ → Sto} {P : σ → En → Sto → Prop} {L : β → Ct} (s : β) (w : Wks C.c (L s).c) (hB : C.B = (L s).B) : JG Φ Γ C (.cons .cnt ss) (semX (semS er rb (PR L) P)) (some (.ct s)) := js_cnt fun env S R => by
  have := Rel.wk (B := C.B) (c := C.c) R w
  rwa [hB] at this
theorem js_retXR {er : ρ → PyData} {e : Ex} {te : Option ρ} (he : JE Φ Γ C e er te) : JG Φ Γ C (.cons (.ret e) ss) (semX (semR er fun _ => C.B)) te := semR_notnx (js_ret he)
theorem ite_ob (c : Bool) (a b : α) : (Option.bind (some c) fun x => if x = true then some a else some b) = some (if c = true then a else b) := by cases c <;> rfl
theorem ite_some (c : Bool) (a b : α) : (if c = true then some a else some b) = some (if c = true then a else b) := by cases c <;> rfl
theorem mk_R {er : ρ → PyData} {rb : ρ → Sto} : ∀ r res, semR er rb r res → semR er rb (id r) res := fun _ _ h => h
theorem mk_S {er : ρ → PyData} {rb : ρ → Sto} {Pl : β → En → Sto → Prop} {P : σ → En → Sto → Prop} : ∀ r res, semR er rb r res → semS er rb Pl P (.rt r) res := fun _ _ h => h
theorem js_ret0 {er : ρ → PyData} {r : ρ} (h : er r = .none) : JG Φ Γ C (.cons .ret0 ss) (semR er fun _ => C.B) (some r) := fun env S R o ho => by
  cases ho
  obtain ⟨X, h1, h2⟩ := R.pre
  exact ⟨env, S, X, by rw [r_rt (by rw [ex]), h], h1, h2⟩
/-- a thing of one's own is handed back -/
theorem js_retOw {i : Nat} {xs : List α} {ea : α → PyData} {b : Bool} (h : C.c[i]? = some (.ow (.lst (xs.map ea) b))) : JG Φ Γ C (.cons (.ret (.var i)) ss) (semR (eL ea) fun _ => C.B) (some xs) := fun env S R o ho => by
  cases ho
  obtain ⟨k, e1, e2, m⟩ := Rel.mut (B := C.B) (c := C.c) R h
  obtain ⟨X, h1, h2⟩ := (m (.lst (xs.map ea) true) rfl).pre
  have e3 : ev Φ Γ (.var i) env S = some (.obj k, S) := by rw [ev_var, e1]
  have e4 : frz S (.obj k) = some (.list (xs.map ea), S.set k (.lst (xs.map ea) true)) := by simp only [frz, e2]
  have : ex Φ Γ (.ret (.var i)) env S = some (.rt (.d (eL ea xs)), env, S.set k (.lst (xs.map ea) true)) := by
    rw [ex, e3]
    simp only [e4]
    rfl
  exact ⟨env, _, X, by rw [r_rt this], h1, h2⟩
theorem js_retOwX {i : Nat} {xs : List α} {ea : α → PyData} {b : Bool} (h : C.c[i]? = some (.ow (.lst (xs.map ea) b))) : JG Φ Γ C (.cons (.ret (.var i)) ss) (semX (semR (eL ea) fun _ => C.B)) (some xs) := semR_notnx (js_retOw h)
end
/-! what is the same -/
def sameO {α : Type} [DecidableEq α] (e : α → PyData) (n : Nat) (x y : α) : Option Bool := if x = y ∧ fitS n (e x) = true then some true else none
theorem fn_same {F : Nat → List Fs} {Γ : List PyData} {i : Nat} (hF : ∀ k, (F (k + 1))[i]? = some (run (F k) Γ 3 (bSame i))) {α : Type} [DecidableEq α] {e : α → PyData} (n k : Nat) (hn : n ≤ k + 1) : FnT (F (k + 1)) i (fun v : α × α × Unit => [(true, e v.1), (true, e v.2.1)]) (fun v => sameO e n v.1 v.2.1) eB := by
  refine ⟨_, hF k, fun S as v r hS ag hr => ⟨[], rfl, ?_⟩⟩
  obtain ⟨x, y, _⟩ := v
  by_cases c : x = y ∧ fitS n (e x) = true
  · have hq : (if x = y ∧ fitS n (e x) = true then some true else none) = some r := hr
    rw [if_pos c] at hq
    clear hr
    obtain ⟨c1, c2⟩ := c
    subst c1
    cases hq
    match as, ag with
    | [a, b], ag =>
      obtain ⟨h1, h2, _⟩ := ag
      simp only [if_true] at h1 h2
      subst h1 h2
      rw [same_ok Γ F hF n (e x) k S c2 hn]
      simp
      rfl
  · have hq : (if x = y ∧ fitS n (e x) = true then some true else none) = some r := hr
    rw [if_neg c] at hq
    cases hq
theorem draw_is (Φ : List Fs) (Γ : List PyData) (ns : List Int) (S : Sto) : run Φ Γ 1 bDraw [.seq ns] S = some (.obj S.length, S ++ [dO ⟨ns, 0, 0, 17⟩]) := by
  simp [run, bDraw, exs, ex, ev, evs, bltF, frzAll, frz, newOb, drO, dO]
end PV
namespace PV
open PySem PySem.Spec PyProof.Rows L2
section
variable {Φ : List Fs} {Γ : List PyData} {C : Ct} {α β γ ρ σ Ω : Type} {ss : Ss} {sem : Ω → Res → Prop}
theorem JV.of {e : Ex} {ea : α → PyData} {t t' : Option α} (h : JV Φ Γ C e ea t) (q : t = t') : JV Φ Γ C e ea t' := q ▸ h
theorem JI.of {it : Itx} {ea : α → PyData} {t t' : Option (List α)} (h : JI Φ Γ C it ea t) (q : t = t') : JI Φ Γ C it ea t' := q ▸ h
theorem JI0.of {it : Itx} {ea : α → PyData} {t t' : Option (List α)} (h : JI0 Φ Γ C it ea t) (q : t = t') : JI0 Φ Γ C it ea t' := q ▸ h
theorem JO.of {es : Exs} {t t' : Option (Option Int)} (h : JO Φ Γ C es t) (q : t = t') : JO Φ Γ C es t' := q ▸ h
theorem JA.of {es : Exs} {pk : α → List (Bool × PyData)} {t t' : Option α} (h : JA Φ Γ C es pk t) (q : t = t') : JA Φ Γ C es pk t' := q ▸ h
theorem JP.of {ts : Tgs} {es : Exs} {U : α → List (Nat × Sl)} {t t' : Option α} (h : JP Φ Γ C ts es U t) (q : t = t') : JP Φ Γ C ts es U t' := q ▸ h
theorem js_ctx {C' : Ct} {t : Option Ω} (q : C = C') (h : JG Φ Γ C' ss sem t) : JG Φ Γ C ss sem t := q ▸ h
theorem mulO_r {x y : Int} (h : -(2 ^ 64) < y ∧ y < 2 ^ 64) : mulO x y = some (x * y) := by
  unfold mulO mulOk
  rw [if_pos (by simp only [decide_eq_true_eq]; exact .inr h)]
end
section
variable {δ : Type} {Φ : List Fs} {Γ : List PyData} {C : δ → Ct} {d : δ} {α β γ ρ σ Ω : Type} {ea : α → PyData} {ss : Ss} {sem : Ω → Res → Prop}
theorem JXT.of {e : Ex} {t t' : Option (Bool × δ)} (h : JXT Φ Γ C d e t) (q : t = t') : JXT Φ Γ C d e t' := q ▸ h
theorem JXI.of {it : Itx} {t t' : Option (List α × δ)} (h : JXI Φ Γ C d it ea t) (q : t = t') : JXI Φ Γ C d it ea t' := q ▸ h
theorem jxo_e {es : Exs} {t : Option (Option Int)} (h : JO Φ Γ (C d) es t) : JXO Φ Γ C d es (t.map fun v => (v, d)) := fun env S R v d' hv => by
  cases t with
  | none => cases hv
  | some u =>
    cases hv
    exact ⟨S, h env S R _ rfl, R⟩
/-- some things are drawn, then new things are made -/
def JXP (Φ : List Fs) (Γ : List PyData) (C : δ → Ct) (d : δ) (ts : Tgs) (es : Exs) (U : α → List (Nat × Sl)) (t : Option (α × δ)) : Prop := ∀ env S, Rel (C d) env S → ∀ v d', t = some (v, d') → ∃ as S' S1, evs Φ Γ es env S = some (as, S') ∧ Rel (C d') env S1 ∧ ∀ c1 env1, Rel ⟨(C d').B, c1⟩ env1 S1 → ∃ env2, bnds Φ Γ ts as env1 S' = some (env2, S') ∧ Rel ⟨(C d').B, setAll c1 (U v)⟩ env2 S'
theorem jxp_of {ts : Tgs} {es : Exs} {U : α → List (Nat × Sl)} {t : Option α} (h : JP Φ Γ (C d) ts es U t) : JXP Φ Γ C d ts es U (t.map fun v => (v, d)) := fun env S R v d' hv => by
  cases t with
  | none => cases hv
  | some u =>
    cases hv
    obtain ⟨as, S', e1, q⟩ := h env S R _ rfl
    exact ⟨as, S', S, e1, R, q⟩
theorem jxp_cons {i : Nat} {e : Ex} {ts : Tgs} {es : Exs} {ta : Option (α × δ)} {tb : δ → Option (β × δ)} {U : β → List (Nat × Sl)} (h : JX Φ Γ C d e ea ta) (hs : ∀ d', JXP Φ Γ C d' ts es U (tb d')) : JXP Φ Γ C d (.cons (.nm i) ts) (.cons e es) (fun v : α × β => (i, .va (ea v.1)) :: U v.2) (ta.bind fun p => (tb p.2).map fun q => ((p.1, q.1), q.2)) := fun env S R v d' hv => by
  cases ta with
  | none => cases hv
  | some p =>
    obtain ⟨x, d1⟩ := p
    simp only [Option.bind_some] at hv
    cases hq : tb d1 with
    | none => rw [hq] at hv; cases hv
    | some q =>
      obtain ⟨y, d2⟩ := q
      rw [hq] at hv
      simp only [Option.map_some, Option.some.injEq, Prod.mk.injEq] at hv
      obtain ⟨rfl, rfl⟩ := hv
      obtain ⟨S0, e1, R1⟩ := h env S R x d1 rfl
      obtain ⟨as, S', S1, e2, R2, q⟩ := hs d1 env S0 R1 y _ hq
      refine ⟨.d (ea x) :: as, S', S1, by rw [x_evs_cons, e1]; simp only [e2], R2, fun c1 env1 R3 => ?_⟩
      obtain ⟨env2, q1, R4⟩ := q _ _ (R3.va i (ea x))
      exact ⟨env2, by rw [x_bc, x_bnm]; exact q1, R4⟩
theorem js_parXP {ts : Tgs} {es : Exs} {U : α → List (Nat × Sl)} {te : Option (α × δ)} {k : α → δ → Option Ω} (h : JXP Φ Γ C d ts es U te) (hs : ∀ v d', JG Φ Γ ⟨(C d').B, setAll (C d').c (U v)⟩ ss sem (k v d')) : JG Φ Γ (C d) (.cons (.par ts es) ss) sem (te.bind fun p => k p.1 p.2) := fun env S R o ho => by
  cases te with
  | none => cases ho
  | some p =>
    obtain ⟨v, d1⟩ := p
    obtain ⟨as, S', S1, e1, R1, q⟩ := h env S R v d1 rfl
    obtain ⟨env2, q1, R2⟩ := q (C d1).c env R1
    rw [exs_nx (r_par e1 q1)]
    exact hs v d1 _ _ R2 o ho
end
/-- the law's end -/
theorem law_end {ds : List Df} {Γ : List PyData} {i n : Nat} {b : Ss} {ns : List Int} {t : Option (Bool × Dr)} {d' : Dr} {f : Nat} {ss : Ss} (hi : (Ph Γ ds 40)[i]? = some (run (Ph Γ ds 39) Γ (n + 2) b)) (hf : (Ph Γ ds 39)[f]? = some (run (Ph Γ ds 38) Γ 1 bDraw)) (hb : b = .cons (.asg (.nm 1) (.call f (.cons (.var 0) .nil))) ss)
    (h : JG (Ph Γ ds 39) Γ (CB [dO ⟨ns, 0, 0, 17⟩] 0 (.no :: .rf 0 :: List.replicate n .no) ⟨ns, 0, 0, 17⟩) ss (semR (fun r : Bool × Dr => eB r.1) fun r => [dO r.2]) t) (ht : t = some (true, d')) : ∃ m S, (Ph Γ ds 40)[i]? = some m ∧ m [.seq ns] [] = some (.d (.bool true), S) := by
  have R : Rel (CB [dO ⟨ns, 0, 0, 17⟩] 0 (.no :: .rf 0 :: List.replicate n .no) ⟨ns, 0, 0, 17⟩) (some (.seq ns) :: some (.obj 0) :: List.replicate n none) [dO ⟨ns, 0, 0, 17⟩] := by
    refine ⟨by simp [CB], ⟨[], by simp [CB], rfl⟩, fun _ => 0, fun i j o o' e => ?_, fun i s e => ?_⟩
    · exfalso
      have := List.mem_of_getElem? e
      simp [CB] at this
    · match i, e with
      | 0, e =>
        have : s = .no := by simpa [CB] using e.symm
        subst this
        trivial
      | 1, e =>
        have : s = .rf 0 := by simpa [CB] using e.symm
        subst this
        exact ⟨rfl, by simp [CB]⟩
      | i + 2, e =>
        have e : (List.replicate n Sl.no)[i]? = some s := by simpa [CB] using e
        have := (List.mem_replicate.mp (List.mem_of_getElem? e)).2
        subst this
        trivial
  obtain ⟨e, S', X, q1, q2, q3⟩ := h _ _ R _ ht
  refine ⟨_, S', hi, ?_⟩
  have e1 : ev (Ph Γ ds 39) Γ (.call f (.cons (.var 0) .nil)) (some (.seq ns) :: none :: List.replicate n none) [] = some (.obj 0, [dO ⟨ns, 0, 0, 17⟩]) := by
    have := r_call (Φ := Ph Γ ds 39) (Γ := Γ) (env := some (.seq ns) :: none :: List.replicate n none) (S := []) (S1 := []) (es := .cons (.var 0) .nil) (as := [.seq ns]) (f := f) (by simp) hf (draw_is _ _ ns [])
    rw [this]
    rfl
  unfold run
  have en : (List.map some [A.seq ns] ++ List.replicate (n + 2 - [A.seq ns].length) none) = some (.seq ns) :: none :: List.replicate n none := by
    simp [List.replicate_succ]
  rw [en, hb, exs_nx (r_asg e1)]
  simp only [List.set_cons_succ, List.set_cons_zero]
  rw [q1]
  rfl
end PV
namespace PV
open PySem PySem.Spec PyProof.Rows L2
/-! what may be None, in a row of others -/
def inO {α : Type} [DecidableEq α] (x : Option α) (xs : List α) : Bool := match x with
  | none => false
  | some y => inB y xs
theorem o_inO {α γ : Type} [DecidableEq α] {a : α → PyData} {d : Nat} (h : EqT a d) (hd : d ≤ 63) (nn : ∀ v, notNone (a v) = true) (π : γ → List α) {c : γ → PyData} (hc : ∀ v, c v = .list ((π v).map a) ∨ c v = .tuple ((π v).map a)) (x : Option α) (v : γ) : cmpD .In (eO a x) (c v) = some (inO x (π v)) := by
  cases x with
  | some y => exact o_inG h hd π hc y v
  | none =>
    have hl : SeqAt.shaped (.list ((π v).map a)) = true := shaped_of (eq_L h) (by omega) (π v)
    have hk : okIn .none ((π v).map a) = true := by
      unfold okIn
      rw [hl]
      simp [SeqAt.shaped, PyData.canLay0, PyData.depth]
    have hn : ((π v).map a).any (fun z => PyData.eqv z .none) = false := by
      rw [List.any_eq_false]
      intro z hz
      obtain ⟨y, _, rfl⟩ := List.mem_map.mp hz
      rw [(eqv_none h nn y).2]
      simp
    show inD .none _ = _
    rcases hc v with q | q <;> (rw [q]; simp only [inD, hk, if_true, hn]; rfl)
theorem o_ninO {α γ : Type} [DecidableEq α] {a : α → PyData} {d : Nat} (h : EqT a d) (hd : d ≤ 63) (nn : ∀ v, notNone (a v) = true) (π : γ → List α) {c : γ → PyData} (hc : ∀ v, c v = .list ((π v).map a) ∨ c v = .tuple ((π v).map a)) (x : Option α) (v : γ) : cmpD .NotIn (eO a x) (c v) = some (!inO x (π v)) := by
  have e : inD (eO a x) (c v) = some (inO x (π v)) := o_inO h hd nn π hc x v
  show (inD _ _).map _ = _
  rw [e]
  rfl
section
variable {Φ : List Fs} {Γ : List PyData} {C : Ct}
theorem je_slcR {a : Ex} {lo hi : Exs} {ta : Option PyData} {tl th : Option (Option Int)} (ha : JV Φ Γ C a eR ta) (hl : JO Φ Γ C lo tl) (hh : JO Φ Γ C hi th) : JE Φ Γ C (.slc a lo hi) eR (ta.bind fun x => tl.bind fun l => th.bind fun h => slcD x l h) := fun env S R v hv => by
  cases ta with
  | none => cases hv
  | some x =>
    cases tl with
    | none => cases hv
    | some l =>
      cases th with
      | none => cases hv
      | some h =>
        have hv : slcD x l h = some v := hv
        obtain ⟨u, e1, d1⟩ := ha env S R x rfl
        have d1 : deref S u = some x := d1
        rw [ev_slc, e1]
        simp only [hl env S R l rfl, hh env S R h rfl, d1, hv, Option.map_some]
        rfl
end
end PV
namespace PV
section
variable {α β γ : Type}
theorem ob1 (a : α) (f : α → Option β) : (some a).bind f = f a := (Option.bind_some a f).trans rfl
theorem ob2 (x : Option α) (f : α → Option β) (g : β → Option γ) : (x.bind f).bind g = x.bind fun y => (f y).bind g := by cases x <;> rfl
theorem ob3 (f : α → β) (x : Option α) : Option.map f x = x.bind fun a => some (f a) := by cases x <;> rfl
theorem ob4 (x : Option α) : (x.bind fun a => some a) = x := by cases x <;> rfl
end
end PV
namespace PV
open PySem PySem.Spec PyProof.Rows L2
section
variable {δ : Type} {Φ : List Fs} {Γ : List PyData} {C : δ → Ct} {d : δ} {ρ β σ : Type} {ss : Ss} {Pl : β → En → Sto → Prop} {P : σ → En → Sto → Prop}
theorem js_retSXX {er : ρ → PyData} {e : Ex} {te : Option (ρ × δ)} (he : JX Φ Γ C d e er te) : JG Φ Γ (C d) (.cons (.ret e) ss) (semX (semS (fun r : ρ × δ => er r.1) (fun r => (C r.2).B) Pl P)) (te.map .rt) := fun env S R o ho => by
  cases te with
  | none => cases ho
  | some r =>
    obtain ⟨v, d1⟩ := r
    cases ho
    obtain ⟨S1, e1, R1⟩ := he env S R v _ rfl
    obtain ⟨X, h1, h2⟩ := R1.pre
    refine ⟨⟨env, S1, X, by rw [r_rt (r_ret e1)], h1, h2⟩, fun e2 S2 z => ?_⟩
    rw [r_rt (r_ret e1)] at z
    cases z
end
section
variable {ρ β σ Ω : Type} {er : ρ → PyData} {rb : ρ → Sto} {Pl : β → En → Sto → Prop} {P : σ → En → Sto → Prop}
theorem mk_RX : ∀ r res, semR er rb r res → semX (semR er rb) (id r) res := fun r res h => ⟨h, fun e S z => by
  obtain ⟨_, _, _, w, _⟩ := h
  rw [z] at w
  cases w⟩
end
end PV
namespace PV
open PySem PySem.Spec PyProof.Rows L2
theorem enc_L {α β : Type} {a : α → PyData} {b : β → PyData} (f : α → β) (h : ∀ v, a v = b (f v)) (xs : List α) : eL a xs = eL b (List.map f xs) := by
  unfold eL
  rw [List.map_map]
  congr 1
  exact List.map_congr_left fun v _ => h v
theorem enc_T {α β : Type} {a : α → PyData} {b : β → PyData} (f : α → β) (h : ∀ v, a v = b (f v)) (xs : List α) : eT a xs = eT b (List.map f xs) := by
  unfold eT
  rw [List.map_map]
  congr 1
  exact List.map_congr_left fun v _ => h v
end PV
namespace PV
open PySem PySem.Spec PyProof.Rows L2
theorem le_gen (x y : PyData) (h : okLt x y = true) (h2 : PySem.W.alike y x = true) : cmpD .LtE x y = some (!ltB y x) := by
  have g : leD x y = some (!ltB y x) := by unfold leD; rw [if_pos ⟨h, h2⟩]
  cases x with
  | int i =>
    cases y with
    | int j =>
      show some (decide (i ≤ j)) = some (!decide (j < i))
      by_cases hh : i ≤ j
      · simp [hh, Int.not_lt.mpr hh]
      · simp [hh, Int.not_le.mp hh]
    | _ => exact g
  | _ => exact g
theorem gt_gen (x y : PyData) (h : okLt x y = true) (h2 : PySem.W.alike y x = true) : cmpD .Gt x y = some (ltB y x) := by
  have g : gtD x y = some (ltB y x) := by unfold gtD; rw [if_pos ⟨h, h2⟩]
  cases x with
  | int i =>
    cases y with
    | int j => simp [cmpD, ltB]
    | _ => exact g
  | _ => exact g
theorem okLt_of {α : Type} {a : α → PyData} {l : α → α → Bool} {d : Nat} (h : LtT a l d) (hd : d ≤ 32) (x y : α) : okLt (a x) (a y) = true := by
  unfold okLt
  rw [h.ali, h.noD, h.noD, h.nn]
  simpa using Nat.le_trans (h.dep x) hd
theorem o_le {α : Type} {a : α → PyData} {l : α → α → Bool} {d : Nat} (h : LtT a l d) (hd : d ≤ 32) (x y : α) : cmpD .LtE (a x) (a y) = some (!l y x) := by
  rw [le_gen _ _ (okLt_of h hd x y) (h.ali y x), h.val]
theorem o_gt {α : Type} {a : α → PyData} {l : α → α → Bool} {d : Nat} (h : LtT a l d) (hd : d ≤ 32) (x y : α) : cmpD .Gt (a x) (a y) = some (l y x) := by
  rw [gt_gen _ _ (okLt_of h hd x y) (h.ali y x), h.val]
theorem o_sumT (xs : List Int) (z : Int) (h : some xs.sum = some z) : bltD .sum (eT eI xs) = some (eI z) := by cases h; simp [eT, bltD, intsD_map]; rfl
section
variable {Φ : List Fs} {Γ : List PyData} {C : Ct} {α : Type} {a : α → PyData} {ss : Ss}
theorem ev_mth (env : En) (S : Sto) (m : Mth) (o e : Ex) : ev Φ Γ (.mth m o e) env S = match ev Φ Γ o env S with
    | none => none
    | some (x, S1) => match deref S1 x with
      | some (.list _) => match ev Φ Γ e env S1 with
        | none => none
        | some (y, S2) => match deref S2 x, deref S2 y with
          | some dx, some dy => (mthD m dx dy).map fun i => (.d (.int i), S2)
          | _, _ => none
      | _ => none := by
  first | (rw [ev]; done) | (rw [ev]; rfl)
theorem je_mth {m : Mth} {o e : Ex} {to : Option (List α)} {te : Option α} (f : List α → α → Option Int) (hf : ∀ xs x z, f xs x = some z → mthD m (eL a xs) (a x) = some z) (ho : JV Φ Γ C o (eL a) to) (he : JV Φ Γ C e a te) : JE Φ Γ C (.mth m o e) eI (to.bind fun xs => te.bind fun x => f xs x) := fun env S R v hv => by
  cases to with
  | none => cases hv
  | some xs =>
    cases te with
    | none => cases hv
    | some x =>
      obtain ⟨u, e1, d1⟩ := ho env S R xs rfl
      obtain ⟨w, e2, d2⟩ := he env S R x rfl
      have d1' : deref S u = some (.list (xs.map a)) := d1
      have hm : mthD m (.list (xs.map a)) (a x) = some v := hf xs x v hv
      rw [ev_mth, e1]
      simp only [d1', e2, d2, hm, Option.map_some]
      rfl
theorem countP_map' [DecidableEq α] {d : Nat} (h : EqT a d) (x : α) : ∀ xs : List α, (xs.map a).countP (fun z => PyData.eqv z (a x)) = xs.countP fun z => decide (z = x)
  | [] => rfl
  | y :: xs => by
    rw [List.map_cons, List.countP_cons, List.countP_cons, countP_map' h x xs, h.eqv]
def cntB [DecidableEq α] (xs : List α) (x : α) : Int := ((xs.countP fun z => decide (z = x) : Nat) : Int)
theorem o_count [DecidableEq α] {d : Nat} (h : EqT a d) (hd : d ≤ 63) (xs : List α) (x : α) (z : Int) (e : some (cntB xs x) = some z) : mthD .count (eL a xs) (a x) = some z := by
  cases e
  show mthD .count (.list (xs.map a)) (a x) = _
  simp only [mthD]
  rw [if_pos ⟨shaped_of (eq_L h) (by omega) xs, shaped_of h (by omega) x⟩, countP_map' h x xs]
  rfl
def idxO [DecidableEq α] (xs : List α) (x : α) : Option Int := (xs.findIdx? fun z => decide (z = x)).map fun (j : Nat) => (j : Int)
theorem o_index [DecidableEq α] {d : Nat} (h : EqT a d) (hd : d ≤ 63) (xs : List α) (x : α) (z : Int) (e : idxO xs x = some z) : mthD .index (eL a xs) (a x) = some z := by
  show mthD .index (.list (xs.map a)) (a x) = _
  simp only [mthD]
  rw [if_pos ⟨shaped_of (eq_L h) (by omega) xs, shaped_of h (by omega) x⟩, List.findIdx?_map]
  unfold idxO at e
  rw [← e]
  congr 2
  funext y
  simp [h.eqv]
/-- a thing of one's own that was only looked at is handed back -/
theorem js_retRo {i : Nat} {xs : List α} (h : C.c[i]? = some (.ro (eL a xs))) : JG Φ Γ C (.cons (.ret (.var i)) ss) (semR (eL a) fun _ => C.B) (some xs) := fun env S R o ho => by
  cases ho
  obtain ⟨u, e1, d1, R1⟩ := Rel.pin (B := C.B) (c := C.c) R h
  have e3 : ev Φ Γ (.var i) env S = some (u, S) := by rw [ev_var, e1]
  have key : ∃ S2 X, frz S u = some (eL a xs, S2) ∧ S2 = C.B ++ X ∧ X.all Ob.flat = true := by
    obtain ⟨X, h1, h2⟩ := R.pre
    obtain ⟨_, _, ρ, _, ok⟩ := R1
    have hi : i < C.c.length := by
      rcases Nat.lt_or_ge i C.c.length with z | z
      · exact z
      · rw [List.getElem?_eq_none z] at h
        cases h
    obtain ⟨_, l⟩ := ok i _ (List.getElem?_set_self hi)
    rcases l with l | ⟨k, l1, l2, l3, _⟩
    · subst l
      exact ⟨S, X, rfl, h1, h2⟩
    · subst l1
      obtain ⟨fz, g⟩ := deref_lst l3
      refine ⟨S.set k (.lst (xs.map a) true), X.set (k - C.B.length) (.lst (xs.map a) true), by simp only [frz, g]; rfl, by rw [h1]; exact app_set l2, flat_all_set h2 rfl⟩
  obtain ⟨S2, X, k1, k2, k3⟩ := key
  have : ex Φ Γ (.ret (.var i)) env S = some (.rt (.d (eL a xs)), env, S2) := by
    rw [ex, e3]
    simp only [k1]
  exact ⟨env, S2, X, by rw [r_rt this], k2, k3⟩
theorem js_retRoX {i : Nat} {xs : List α} (h : C.c[i]? = some (.ro (eL a xs))) : JG Φ Γ C (.cons (.ret (.var i)) ss) (semX (semR (eL a) fun _ => C.B)) (some xs) := semR_notnx (js_retRo h)
end
end PV

/-! PT7: plain facts of what is computed. -/
namespace PV
open PySem PySem.Spec PyProof.Rows L2
section
variable {α β γ σ ρ δ : Type}
theorem appO_ok {xs ys : List α} (h : xs.length + ys.length ≤ 16777216) : appO xs ys = some (xs ++ ys) := by
  rw [appO_def]
  rw [if_pos h]
theorem pshO_ok {xs : List α} {v : α} (h : xs.length < 16777216) : pshO xs v = some (xs ++ [v]) := by
  rw [pshO_def]
  rw [if_pos h]
theorem rngO_ok {i j : Int} (h0 : -1000000 ≤ i) (h1 : i ≤ 1000000) (h2 : -1000000 ≤ j) (h3 : j ≤ 1000000) : rngO i j = some (rI i j) := by
  rw [rngO_def]
  rw [if_pos (by omega)]
theorem mem_rI {i j x : Int} : x ∈ rI i j ↔ i ≤ x ∧ x < j := by
  unfold rI
  simp only [List.mem_map, List.mem_range]
  constructor
  · rintro ⟨k, hk, rfl⟩
    omega
  · rintro ⟨h1, h2⟩
    exact ⟨(x - i).toNat, by omega, by omega⟩
theorem len_rI (i j : Int) : (rI i j).length = (j - i).toNat := by simp [rI]
theorem get_rI {i j : Int} {k : Nat} (h : k < (rI i j).length) : (rI i j)[k] = i + (k : Int) := by simp [rI]
theorem rI_nil {i j : Int} (h : j ≤ i) : rI i j = [] := by
  unfold rI
  rw [show (j - i).toNat = 0 by omega]
  rfl
theorem rI_cons {i j : Int} (h : i < j) : rI i j = i :: rI (i + 1) j := by
  unfold rI
  obtain ⟨n, hn⟩ : ∃ n, (j - i).toNat = n + 1 := ⟨(j - i).toNat - 1, by omega⟩
  rw [hn, show (j - (i + 1)).toNat = n by omega, List.range_succ_eq_map]
  simp only [List.map_cons, List.map_map, Function.comp_def]
  congr 1
  · simp
  · apply List.map_congr_left
    intro k _
    simp only [Nat.succ_eq_add_one]
    omega
theorem rI_snoc {i j : Int} (h : i ≤ j) : rI i (j + 1) = rI i j ++ [j] := by
  unfold rI
  rw [show (j + 1 - i).toNat = (j - i).toNat + 1 by omega, List.range_succ, List.map_append]
  congr 1
  simp
  omega
theorem nodup_rI (i j : Int) : (rI i j).Nodup := by
  unfold rI
  unfold List.Nodup
  rw [List.pairwise_map]
  refine List.Pairwise.imp ?_ List.nodup_range
  intro a b h
  omega
theorem sorted_rI (i j : Int) : (rI i j).Pairwise (· < ·) := by
  unfold rI
  rw [List.pairwise_map]
  refine List.Pairwise.imp ?_ List.pairwise_lt_range
  intro a b h
  omega
theorem atI_pos {xs : List α} {i : Int} (h0 : 0 ≤ i) (h1 : i < (xs.length : Int)) : atI xs i = some (xs[i.toNat]'(by omega)) := by
  have e : i = (i.toNat : Int) := by omega
  have hl : i.toNat < xs.length := by omega
  have := atI_nat xs i.toNat hl
  rw [← e] at this
  exact this
theorem atI_get {xs : List α} {i : Int} (h0 : 0 ≤ i) (h1 : i < (xs.length : Int)) : ∃ x, atI xs i = some x ∧ xs[i.toNat]? = some x ∧ x ∈ xs := by
  have hl : i.toNat < xs.length := by omega
  exact ⟨xs[i.toNat], atI_pos h0 h1, List.getElem?_eq_getElem hl, List.getElem_mem hl⟩
theorem atI_last {xs : List α} {x : α} : atI (xs ++ [x]) (-1) = some x := by
  unfold atI ixN
  simp only [List.length_append, List.length_cons, List.length_nil]
  rw [if_neg (by omega), if_pos (by omega)]
  simp
  rw [show ((-1 : Int) + ((xs.length : Int) + 1)).toNat = xs.length by omega]
  simp
/-- a loop that never ends early -/
theorem forN_ex {f : α → σ → Option σ} (I : List α → σ → Prop) (h : ∀ x xs s, I (x :: xs) s → ∃ s', f x s = some s' ∧ I xs s') : ∀ (xs : List α) (s : σ), I xs s → ∃ s', forN f xs s = some s' ∧ I [] s'
  | [], s, hi => ⟨s, rfl, hi⟩
  | x :: xs, s, hi => by
    obtain ⟨s', h1, h2⟩ := h x xs s hi
    obtain ⟨s2, h3, h4⟩ := forN_ex I h xs s' h2
    exact ⟨s2, by rw [forN, h1]; exact h3, h4⟩
theorem forO_ex {f : α → σ → Option (Ou ρ σ σ)} (I : List α → σ → Prop) (h : ∀ x xs s, I (x :: xs) s → ∃ s', f x s = some (.nx s') ∧ I xs s') : ∀ (xs : List α) (s : σ), I xs s → ∃ s', forO f xs s = some (.nx s') ∧ I [] s'
  | [], s, hi => ⟨s, rfl, hi⟩
  | x :: xs, s, hi => by
    obtain ⟨s', h1, h2⟩ := h x xs s hi
    obtain ⟨s2, h3, h4⟩ := forO_ex I h xs s' h2
    exact ⟨s2, by rw [forO, h1]; exact h3, h4⟩
theorem forO_eq {f : α → σ → Option (Ou ρ σ σ)} {g : σ → α → σ} (I : List α → σ → Prop) (h : ∀ x xs s, I (x :: xs) s → f x s = some (.nx (g s x)) ∧ I xs (g s x)) : ∀ (xs : List α) (s : σ), I xs s → forO f xs s = some (.nx (xs.foldl g s))
  | [], s, _ => rfl
  | x :: xs, s, hi => by
    obtain ⟨h1, h2⟩ := h x xs s hi
    rw [forO, h1, List.foldl_cons]
    exact forO_eq I h xs _ h2
theorem forO_unit {f : α → Unit → Option (Ou ρ Unit Unit)} {xs : List α} (h : ∀ x ∈ xs, f x () = some (.nx ())) : forO f xs () = some (.nx ()) := by
  have := forO_eq (ρ := ρ) (f := f) (g := fun s _ => s) (fun xs _ => ∀ x ∈ xs, f x () = some (.nx ())) (fun x xs s hi => ⟨hi x (by simp), fun y hy => hi y (by simp [hy])⟩) xs () h
  rw [this]
/-- each item told by a key of what came of it -/
theorem mapX_key {g : α → δ → Option (β × δ)} {k : β → α} {P : β → Prop} : ∀ (xs : List α) (h : ∀ x ∈ xs, ∀ d, ∃ y d', g x d = some (y, d') ∧ k y = x ∧ P y) (d : δ), ∃ ys d', mapX g xs d = some (ys, d') ∧ ys.map k = xs ∧ ∀ y ∈ ys, P y
  | [], _, d => ⟨[], d, rfl, rfl, by simp⟩
  | x :: xs, h, d => by
    obtain ⟨y, d1, h1, h2, h6⟩ := h x (by simp) d
    obtain ⟨ys, d2, h3, h4, h5⟩ := mapX_key xs (fun z hz => h z (by simp [hz])) d1
    refine ⟨y :: ys, d2, by rw [mapX, h1]; simp only [h3], by simp [h2, h4], fun z hz => ?_⟩
    rcases List.mem_cons.mp hz with e | hz
    · exact e ▸ h6
    · exact h5 z hz
theorem mapX_exM {g : α → δ → Option (β × δ)} {P : β → Prop} : ∀ (xs : List α) (h : ∀ x ∈ xs, ∀ d, ∃ y d', g x d = some (y, d') ∧ P y) (d : δ), ∃ ys d', mapX g xs d = some (ys, d') ∧ ys.length = xs.length ∧ ∀ y ∈ ys, P y
  | [], _, d => ⟨[], d, rfl, rfl, by simp⟩
  | x :: xs, h, d => by
    obtain ⟨y, d1, h1, h2⟩ := h x (by simp) d
    obtain ⟨ys, d2, h3, h4, h5⟩ := mapX_exM xs (fun z hz => h z (by simp [hz])) d1
    refine ⟨y :: ys, d2, by rw [mapX, h1]; simp only [h3], by simp [h4], fun z hz => ?_⟩
    rcases List.mem_cons.mp hz with e | hz
    · exact e ▸ h2
    · exact h5 z hz
/-- some of them are kept -/
theorem filX_ex {p : α → δ → Option (Bool × δ)} {g : α → δ → Option (β × δ)} {k : α → β} (hp : ∀ x d, ∃ b d', p x d = some (b, d')) (hg : ∀ x d, g x d = some (k x, d)) : ∀ (xs : List α) (d : δ), ∃ (ys : List α) (d' : δ), filX p g xs d = some (ys.map k, d') ∧ ys.Sublist xs
  | [], d => ⟨[], d, rfl, .slnil⟩
  | x :: xs, d => by
    obtain ⟨b, d1, h1⟩ := hp x d
    obtain ⟨ys, d2, h3, h4⟩ := filX_ex hp hg xs d1
    cases b with
    | false => exact ⟨ys, d2, by rw [filX, h1]; exact h3, .cons _ h4⟩
    | true => exact ⟨x :: ys, d2, by rw [filX, h1]; simp only [hg, h3]; rfl, .cons₂ _ h4⟩
/-! the same -/
theorem sameO_ok [DecidableEq α] {e : α → PyData} {n : Nat} {x y : α} (h : x = y) (hf : fitS n (e x) = true) : sameO e n x y = some true := by
  unfold sameO
  rw [if_pos ⟨h, hf⟩]
theorem fit_I (n : Nat) (x : Int) : fitS (n + 1) (eI x) = true := rfl
theorem fit_S (n : Nat) (x : SO) : fitS (n + 1) (eT1 x) = true := rfl
theorem fit_B (n : Nat) (x : Bool) : fitS (n + 1) (eB x) = true := rfl
theorem fitL_map {n : Nat} {e : α → PyData} : ∀ {xs : List α}, (∀ x ∈ xs, fitS n (e x) = true) → fitL (fitS n) (xs.map e) = true
  | [], _ => rfl
  | x :: xs, h => by
    rw [List.map_cons, fitL, h x (by simp), fitL_map fun y hy => h y (by simp [hy])]
    rfl
theorem fit_L {n : Nat} {e : α → PyData} {xs : List α} (hl : xs.length ≤ 16777216) (h : ∀ x ∈ xs, fitS n (e x) = true) : fitS (n + 1) (eL e xs) = true := by
  unfold eL fitS
  rw [fitL_map h]
  simpa using hl
theorem fit_T {n : Nat} {e : α → PyData} {xs : List α} (hl : xs.length ≤ 16777216) (h : ∀ x ∈ xs, fitS n (e x) = true) : fitS (n + 1) (eT e xs) = true := by
  unfold eT fitS
  rw [fitL_map h]
  simpa using hl
theorem fit_O {n : Nat} {e : α → PyData} {x : Option α} (h : ∀ v, x = some v → fitS (n + 1) (e v) = true) : fitS (n + 1) (eO e x) = true := by
  cases x with
  | none => rfl
  | some v => exact h v rfl
theorem fit_P2 {n : Nat} {a : α → PyData} {b : β → PyData} {x : α × β} (h1 : fitS n (a x.1) = true) (h2 : fitS n (b x.2) = true) : fitS (n + 1) (eP2 a b x) = true := by
  unfold eP2 fitS
  simp [fitL, h1, h2]
theorem fit_P3 {n : Nat} {a : α → PyData} {b : β → PyData} {c : γ → PyData} {x : α × β × γ} (h1 : fitS n (a x.1) = true) (h2 : fitS n (b x.2.1) = true) (h3 : fitS n (c x.2.2) = true) : fitS (n + 1) (eP3 a b c x) = true := by
  unfold eP3 fitS
  simp [fitL, h1, h2, h3]
/-! all sets -/
def bldT (xs : List α) : List (List α) := xs.foldl (fun f x => f ++ f.map fun s => s ++ [x]) [[]]
def setsT [DecidableEq α] (lt : α → α → Bool) (xs : List α) : List (List α) := (srt (ltP2 ltI (ltL lt)) ((bldT xs).map fun s => (((s.length : Nat) : Int), s))).map fun r => r.2
theorem bldT_len : ∀ (xs : List α) (st : List (List α)), (xs.foldl (fun f x => f ++ f.map fun s => s ++ [x]) st).length = st.length * 2 ^ xs.length
  | [], st => by simp
  | x :: xs, st => by
    rw [List.foldl_cons, bldT_len xs, List.length_append, List.length_map, List.length_cons, Nat.pow_succ]
    have : st.length + st.length = 2 * st.length := by omega
    rw [this, Nat.mul_comm (2 ^ xs.length) 2, ← Nat.mul_assoc, Nat.mul_comm st.length 2]
theorem sets_turn {x : α} {st : List (List α)} {n : Nat} (h1 : st.length ≤ 2 ^ n) (h2 : ∀ s ∈ st, s.length ≤ n) (hn : n ≤ 16) : ((mapO (fun s => appO s [x]) st).bind fun y => appO st y) = some (st ++ st.map fun s => s ++ [x]) := by
  have e : mapO (fun s => appO s [x]) st = some (st.map fun s => s ++ [x]) := mapO_eq fun s hs => appO_ok (by have := h2 s hs; simp; omega)
  have hp : 2 ^ n ≤ 2 ^ 16 := Nat.pow_le_pow_right (by decide) hn
  rw [e, Option.bind_some, appO_ok (by rw [List.length_map]; omega)]
theorem bldT_ok {f : α → List (List α) → Option (List (List α))} (hf : ∀ x st, f x st = ((mapO (fun s => appO s [x]) st).bind fun y => appO st y)) (xs : List α) (h : xs.length ≤ 12) : forN f xs [[]] = some (bldT xs) := by
  unfold bldT
  refine forN_eq (fun (r : List α) (st : List (List α)) => ∃ n, n + r.length ≤ 12 ∧ st.length ≤ 2 ^ n ∧ ∀ s ∈ st, s.length ≤ n) (fun x r st ⟨n, h1, h2, h3⟩ => ?_) xs [[]] ⟨0, by omega, by simp, by simp⟩
  rw [List.length_cons] at h1
  refine ⟨by rw [hf]; exact sets_turn h2 h3 (by omega), n + 1, by omega, ?_, fun s hs => ?_⟩
  · rw [List.length_append, List.length_map, Nat.pow_succ]
    omega
  · rcases List.mem_append.mp hs with hs | hs
    · have := h3 s hs
      omega
    · obtain ⟨s', hs', rfl⟩ := List.mem_map.mp hs
      have := h3 s' hs'
      simp
      omega
theorem bldT_sub : ∀ (xs : List α) (st : List (List α)) (P : List α → Prop), (∀ s ∈ st, P s) → (∀ s x, P s → x ∈ xs → P (s ++ [x])) → ∀ s ∈ xs.foldl (fun f x => f ++ f.map fun s => s ++ [x]) st, P s
  | [], st, P, h, _ => h
  | x :: xs, st, P, h, hx => by
    rw [List.foldl_cons]
    refine bldT_sub xs _ P (fun s hs => ?_) fun s y hs hy => hx s y hs (by simp [hy])
    rcases List.mem_append.mp hs with hs | hs
    · exact h s hs
    · obtain ⟨s', hs', rfl⟩ := List.mem_map.mp hs
      exact hx s' x (h s' hs') (by simp)
theorem mem_setsT [DecidableEq α] {lt : α → α → Bool} {xs s : List α} : s ∈ setsT lt xs ↔ s ∈ bldT xs := by
  unfold setsT srt
  simp only [List.mem_map, List.mem_mergeSort, Prod.exists]
  constructor
  · rintro ⟨a, b, ⟨s', h, e⟩, rfl⟩
    simp only [Prod.mk.injEq] at e
    exact e.2 ▸ h
  · intro h
    exact ⟨_, s, ⟨s, h, rfl⟩, rfl⟩
theorem setsT_mem [DecidableEq α] {lt : α → α → Bool} {xs s : List α} (h : s ∈ setsT lt xs) : ∀ i ∈ s, i ∈ xs := by
  rw [mem_setsT] at h
  refine bldT_sub xs [[]] (fun s => ∀ i ∈ s, i ∈ xs) (by simp) (fun s x hs hx i hi => ?_) s h
  rcases List.mem_append.mp hi with hi | hi
  · exact hs i hi
  · rw [List.mem_singleton] at hi
    exact hi ▸ hx
theorem setsT_length [DecidableEq α] {lt : α → α → Bool} (xs : List α) : (setsT lt xs).length = 2 ^ xs.length := by
  unfold setsT srt bldT
  simp [bldT_len]
end
end PV
namespace PV
section
variable {α β σ ρ Ω : Type}
/-- what follows a loop -/
theorem forN_post {f : α → σ → Option σ} {k : σ → Option Ω} {xs : List α} {s : σ} (Q : Option Ω → Prop) (I : List α → σ → Prop) (hi : I xs s) (h : ∀ x xs s, I (x :: xs) s → ∃ s', f x s = some s' ∧ I xs s') (hk : ∀ s', I [] s' → Q (k s')) : Q ((forN f xs s).bind k) := by
  obtain ⟨s', h1, h2⟩ := forN_ex I h xs s hi
  rw [h1]
  exact hk s' h2
theorem forO_post {f : α → σ → Option (Ou ρ σ σ)} {mk : ρ → Ω} {k : σ → Option Ω} {xs : List α} {s : σ} (Q : Option Ω → Prop) (I : List α → σ → Prop) (hi : I xs s) (h : ∀ x xs s, I (x :: xs) s → ∃ s', f x s = some (.nx s') ∧ I xs s') (hk : ∀ s', I [] s' → Q (k s')) : Q (ouK (forO f xs s) mk k) := by
  obtain ⟨s', h1, h2⟩ := forO_ex I h xs s hi
  rw [h1]
  exact hk s' h2
end
end PV
namespace PV
open PySem PySem.Spec PyProof.Rows L2
section
variable {α β σ ρ Ω : Type}
theorem forN_flat {f : α → List β → Option (List β)} {g : α → List β} (m : Nat) : ∀ (xs : List α) (h : ∀ x ∈ xs, ∀ s, s.length ≤ 1000000 → f x s = some (s ++ g x)) (hg : ∀ x ∈ xs, (g x).length ≤ m) (s : List β), s.length + xs.length * m ≤ 1000000 → forN f xs s = some (s ++ xs.flatMap g)
  | [], _, _, s, _ => by simp [forN]
  | x :: xs, h, hg, s, hs => by
    rw [List.length_cons, Nat.succ_mul] at hs
    have := hg x (by simp)
    rw [forN, h x (by simp) s (by omega)]
    simp only
    rw [forN_flat m xs (fun y hy => h y (by simp [hy])) (fun y hy => hg y (by simp [hy])) (s ++ g x) (by rw [List.length_append]; omega)]
    simp
theorem flat_if (p : α → Bool) (k : α → β) : ∀ xs : List α, xs.flatMap (fun x => if p x = true then [k x] else []) = (xs.filter p).map k
  | [] => rfl
  | x :: xs => by
    rw [List.flatMap_cons, flat_if p k xs, List.filter_cons]
    cases p x <;> simp
theorem forN_app3 {f : α → List β × List β × List β → Option (List β × List β × List β)} {p q r : α → List β} (m : Nat) : ∀ (xs : List α) (h : ∀ x ∈ xs, ∀ s, s.1.length ≤ 1000000 → s.2.1.length ≤ 1000000 → s.2.2.length ≤ 1000000 → f x s = some (s.1 ++ p x, s.2.1 ++ q x, s.2.2 ++ r x)) (hg : ∀ x ∈ xs, (p x).length ≤ m ∧ (q x).length ≤ m ∧ (r x).length ≤ m) (s : List β × List β × List β), s.1.length + xs.length * m ≤ 1000000 → s.2.1.length + xs.length * m ≤ 1000000 → s.2.2.length + xs.length * m ≤ 1000000 → forN f xs s = some (s.1 ++ xs.flatMap p, s.2.1 ++ xs.flatMap q, s.2.2 ++ xs.flatMap r)
  | [], _, _, s, _, _, _ => by simp [forN]
  | x :: xs, h, hg, s, h1, h2, h3 => by
    rw [List.length_cons, Nat.succ_mul] at h1 h2 h3
    obtain ⟨g1, g2, g3⟩ := hg x (by simp)
    rw [forN, h x (by simp) s (by omega) (by omega) (by omega)]
    simp only
    rw [forN_app3 m xs (fun y hy => h y (by simp [hy])) (fun y hy => hg y (by simp [hy])) _ (by simp only [List.length_append]; omega) (by simp only [List.length_append]; omega) (by simp only [List.length_append]; omega)]
    simp
theorem atI_app {xs : List α} {x : α} {i : Int} (h : i = (xs.length : Int)) : atI (xs ++ [x]) i = some x := by
  subst h
  rw [atI_nat _ _ (by simp)]
  simp
end
end PV
namespace PV
open PySem PySem.Spec PyProof.Rows L2
section
variable {α β σ ρ Ω : Type}
theorem bldT_short : ∀ (xs : List α) (st : List (List α)) (m : Nat), (∀ s ∈ st, s.length ≤ m) → ∀ s ∈ xs.foldl (fun f x => f ++ f.map fun s => s ++ [x]) st, s.length ≤ m + xs.length
  | [], st, m, h => fun s hs => h s hs
  | x :: xs, st, m, h => by
    rw [List.foldl_cons]
    intro s hs
    have := bldT_short xs _ (m + 1) (fun s hs => ?_) s hs
    · rw [List.length_cons]
      omega
    · rcases List.mem_append.mp hs with hs | hs
      · have := h s hs
        omega
      · obtain ⟨s', hs', rfl⟩ := List.mem_map.mp hs
        have := h s' hs'
        simp
        omega
theorem setsT_short [DecidableEq α] {lt : α → α → Bool} {xs s : List α} (h : s ∈ setsT lt xs) : s.length ≤ xs.length := by
  rw [mem_setsT] at h
  have := bldT_short xs [[]] 0 (by simp) s h
  omega
theorem fit_pairs (n : Nat) (L : List (Int × Int)) (h : L.length ≤ 16777216) : fitS (n + 3) (eL (eP2 eI eI) L) = true := fit_L h fun x _ => fit_P2 (fit_I n _) (fit_I n _)
end
end PV

/-! PT8: dicts: operators, stores, what is handed back. -/
namespace PV
open PySem PySem.Spec PyProof.Rows L2
theorem key_S : KeyE eT1 := ⟨fun _ => rfl, fun x y => by
  simp only [eT1, keyD, Option.some.injEq, Sum.inr.injEq]
  exact ⟨SO.ext', fun h => by rw [h]⟩⟩
section
variable {κ υ : Type} {ek : κ → PyData} {ev' : υ → PyData} [DecidableEq κ]
theorem o_get (K : KeyE ek) (d : List (κ × υ)) (k : κ) (z : υ) (h : getM d k = some z) : ixD (eM ek ev' d) (ek k) = some (ev' z) := by
  have : ixD (eM ek ev' d) (ek k) = if (keyD (ek k)).isSome = true then getP (d.map (kvE ek ev')) (ek k) else none := by
    unfold eM
    cases h1 : ek k <;> first | rfl | (have := K.key k; rw [h1] at this; cases this; done) | (have := K.key k; rw [h1] at this; simp [keyD] at this)
  rw [this, if_pos (K.key k), getP_M K, h]
  rfl
theorem o_inM (K : KeyE ek) (k : κ) (d : List (κ × υ)) : cmpD .In (ek k) (eM ek ev' d) = some (getM d k).isSome := by
  show (if (keyD (ek k)).isSome = true then some (getP (d.map (kvE ek ev')) (ek k)).isSome else none) = _
  rw [if_pos (K.key k), getP_M K]
  cases getM d k <;> rfl
theorem o_ninM (K : KeyE ek) (k : κ) (d : List (κ × υ)) : cmpD .NotIn (ek k) (eM ek ev' d) = some (!(getM d k).isSome) := by
  have := o_inM (ev' := ev') K k d
  show (inD (ek k) (eM ek ev' d)).map (!·) = _
  rw [show inD (ek k) (eM ek ev' d) = some (getM d k).isSome from this]
  rfl
theorem o_lenM (d : List (κ × υ)) (z : Int) (h : some ((d.length : Nat) : Int) = some z) : bltD .len (eM ek ev' d) = some (eI z) := by cases h; simp [eM, eI, bltD, lenD]
theorem o_keysM (d : List (κ × υ)) (z : List κ) (h : some (d.map (·.1)) = some z) : bltD .list (eM ek ev' d) = some (eL ek z) := by
  cases h
  simp [eM, bltD, eL, kvE, Function.comp_def]
theorem o_dictM (d z : List (κ × υ)) (h : some d = some z) : bltD .dict (eM ek ev' d) = some (eM ek ev' z) := by
  cases h
  rfl
theorem pairsD_M (K : KeyE ek) : ∀ d : List (κ × υ), pairsD (d.map (eP2 ek ev')) = some (d.map (kvE ek ev'))
  | [] => rfl
  | p :: r => by
    rw [List.map_cons, List.map_cons]
    show (if (keyD (ek p.1)).isSome = true then (pairsD (r.map (eP2 ek ev'))).map ((ek p.1, ev' p.2) :: ·) else none) = _
    rw [if_pos (K.key _), pairsD_M K r]
    rfl
theorem o_dictL (K : KeyE ek) (d z : List (κ × υ)) (h : some (mkM d) = some z) : bltD .dict (eL (eP2 ek ev') d) = some (eM ek ev' z) := by
  cases h
  show (pairsD (d.map (eP2 ek ev'))).map _ = _
  rw [pairsD_M K, Option.map_some, show ([] : List (PyData × PyData)) = (([] : List (κ × υ)).map (kvE ek ev')) from rfl, mergeP_M K]
  rfl
theorem o_dictT (K : KeyE ek) (d z : List (κ × υ)) (h : some (mkM d) = some z) : bltD .dict (eT (eP2 ek ev') d) = some (eM ek ev' z) := by
  cases h
  show (pairsD (d.map (eP2 ek ev'))).map _ = _
  rw [pairsD_M K, Option.map_some, show ([] : List (PyData × PyData)) = (([] : List (κ × υ)).map (kvE ek ev')) from rfl, mergeP_M K]
  rfl
/-- sorted(d), of keys that are alike -/
def srtM (l : κ → κ → Bool) (d : List (κ × υ)) : Option (List κ) := if lowN 64 d.length = true then some (srt l (d.map (·.1))) else none
theorem srtM_def (l : κ → κ → Bool) (d : List (κ × υ)) : srtM l d = if d.length < 64 then some (srt l (d.map (·.1))) else none := by
  unfold srtM
  refine iteC ?_
  simp only [lowN_iff]
theorem strKs_S : ∀ xs : List SO, strKs (xs.map eT1) = true
  | [] => rfl
  | x :: xs => by rw [List.map_cons]; exact strKs_S xs
theorem intKs_I : ∀ xs : List Int, intKs (xs.map eI) = true
  | [] => rfl
  | x :: xs => by rw [List.map_cons]; exact intKs_I xs
theorem sortD_of {α : Type} {a : α → PyData} {l : α → α → Bool} {n : Nat} (h : LtT a l n) (hd : n ≤ 32) (ht : (∀ x, isTupD (a x) = true) ∨ ∀ x, noTupD (a x) = true) (xs : List α) : sortD (xs.map a) = some ((srt l xs).map a) := by
  have := o_sort h hd ht xs _ rfl
  have e : (sortD (xs.map a)).map PyData.list = some (.list ((srt l xs).map a)) := this
  cases hs : sortD (xs.map a) with
  | none => rw [hs] at e; cases e
  | some w =>
    rw [hs] at e
    simp only [Option.map_some, Option.some.injEq, PyData.list.injEq] at e
    rw [e]
theorem o_sortM {l : κ → κ → Bool} {n : Nat} (h : LtT ek l n) (hd : n ≤ 32) (ht : ∀ x, noTupD (ek x) = true) (hk : ∀ xs : List κ, (strKs (xs.map ek) || intKs (xs.map ek)) = true) (d : List (κ × υ)) (z : List κ) (e : srtM l d = some z) : bltD .sorted (eM ek ev' d) = some (eL ek z) := by
  rw [srtM_def] at e
  split at e
  · rename_i hl
    cases e
    have ek' : (d.map (kvE ek ev')).map (·.1) = (d.map (·.1)).map ek := by simp [kvE, Function.comp_def]
    show (if (strKs ((d.map (kvE ek ev')).map (·.1)) || intKs ((d.map (kvE ek ev')).map (·.1))) = true ∧ (d.map (kvE ek ev')).length < 64 then (sortD ((d.map (kvE ek ev')).map (·.1))).map PyData.list else none) = _
    rw [ek', if_pos ⟨hk _, by rw [List.length_map]; exact hl⟩, sortD_of h hd (.inr ht)]
    rfl
  · cases e
theorem o_itsL (v w : List (κ × υ)) (h : some v = some w) : (if false = true then sortD (v.map (eP2 ek ev')) else some (v.map (eP2 ek ev'))) = some (w.map (eP2 ek ev')) := by
  cases h
  rfl
theorem o_itsS {l : κ × υ → κ × υ → Bool} {n : Nat} (hl : LtT (eP2 ek ev') l n) (hd : n ≤ 32) (v w : List (κ × υ)) (h : some (srt l v) = some w) : (if true = true then sortD (v.map (eP2 ek ev')) else some (v.map (eP2 ek ev'))) = some (w.map (eP2 ek ev')) := by
  cases h
  rw [if_pos rfl]
  exact sortD_of hl hd (.inl fun _ => rfl) v
end
section
variable {Φ : List Fs} {Γ : List PyData} {C : Ct} {α β γ ρ σ τ Ω : Type} {ea : α → PyData} {ss a b : Ss} {sem : Ω → Res → Prop} {κ υ : Type} {ek : κ → PyData} {ev' : υ → PyData} [DecidableEq κ]
/-- a dict of one's own -/
def owM (ek : κ → PyData) (ev' : υ → PyData) (d : List (κ × υ)) : Sl := .ow (.dic (d.map (kvE ek ev')) false false)
theorem js_newM {i : Nat} {e : Ex} {te : Option (List (κ × υ))} {k : List (κ × υ) → Option Ω} (he : JE Φ Γ C e (eM ek ev') te) (hs : ∀ v, JG Φ Γ ⟨C.B, C.c.set i (.ow (.dic (List.map (kvE ek ev') v) false false))⟩ ss sem (k v)) : JG Φ Γ C (.cons (.asg (.nm i) (.fresh e)) ss) sem (te.bind k) := fun env S R o ho => by
  cases te with
  | none => cases ho
  | some v =>
    have e1 := he env S R v rfl
    have : ex Φ Γ (.asg (.nm i) (.fresh e)) env S = some (.nx, env.set i (some (.obj S.length)), S ++ [.dic (v.map (kvE ek ev')) false false]) := r_asg (by rw [ev_fresh, e1]; rfl)
    rw [exs_nx this]
    exact hs v _ _ (Rel.new (B := C.B) (c := C.c) R i _ rfl) o ho
theorem jp_newM {i : Nat} {e : Ex} {ts : Tgs} {es : Exs} {ta : Option (List (κ × υ))} {tb : Option β} {U : β → List (Nat × Sl)} (h : JE Φ Γ C e (eM ek ev') ta) (hs : JP Φ Γ C ts es U tb) : JP Φ Γ C (.cons (.nm i) ts) (.cons (.fresh e) es) (fun v : List (κ × υ) × β => (i, .ow (.dic (List.map (kvE ek ev') v.1) false false)) :: U v.2) (ta.bind fun x => tb.map fun y => (x, y)) := fun env S R v hv => by
  cases ta with
  | none => cases hv
  | some x =>
    cases tb with
    | none => cases hv
    | some y =>
      cases hv
      obtain ⟨as, S', e1, q⟩ := hs env _ (R.more (.dic (x.map (kvE ek ev')) false false) rfl) y rfl
      refine ⟨.obj S.length :: as, S', ?_, fun c1 env1 R1 => ?_⟩
      · rw [x_evs_cons, ev_fresh, h env S R x rfl]
        simp only [eM, newOb, e1]
      · obtain ⟨env2, q1, R2⟩ := q _ _ (R1.new i (.dic (x.map (kvE ek ev')) false false) rfl)
        exact ⟨env2, by rw [x_bc, x_bnm]; exact q1, R2⟩
theorem js_put {i : Nat} {ke e : Ex} {xs : List (κ × υ)} {te : Option υ} {tk : Option κ} {k : List (κ × υ) → Option Ω} (K : KeyE ek) (h : C.c[i]? = some (.ow (.dic (List.map (kvE ek ev') xs) false false))) (he : JE Φ Γ C e ev' te) (hk : JE Φ Γ C ke ek tk) (hs : ∀ ys, JG Φ Γ ⟨C.B, C.c.set i (.ow (.dic (List.map (kvE ek ev') ys) false false))⟩ ss sem (k ys)) : JG Φ Γ C (.cons (.asg (.sub (.var i) ke) e) ss) sem (te.bind fun v => tk.bind fun x => (putO xs x v).bind k) := fun env S R o ho => by
  cases te with
  | none => cases ho
  | some v =>
    cases tk with
    | none => cases ho
    | some x =>
      have ho : (putO xs x v).bind k = some o := ho
      rw [putO_def] at ho
      split at ho
      · rename_i hl
        obtain ⟨q, e1, e2, m⟩ := Rel.mut (B := C.B) (c := C.c) R h
        have ev1 : ev Φ Γ (.var i) env S = some (.obj q, S) := by rw [ev_var, e1]
        have hb : bnd Φ Γ (.sub (.var i) ke) (.d (ev' v)) env S = some (env, S.set q (.dic (List.map (kvE ek ev') (putM xs x v)) false false)) := by
          rw [bnd, ev1]
          simp only [hk env S R x rfl, setF, e2, frz_d, List.length_map, K.key, hl, and_self, if_true, Option.map_some, putP_M K]
        rw [exs_nx (r_asgt (he env S R v rfl) hb)]
        exact hs _ _ _ (m _ rfl) o ho
      · cases ho
/-- o.pop(k), as a reading that changes what the dict holds -/
theorem jx_pop {i : Nat} {ke : Ex} {B : Sto} {c : List Sl} {xs : List (κ × υ)} {tk : Option κ} (K : KeyE ek) (hi : i < c.length) (hk : JE Φ Γ ⟨B, c.set i (.ow (.dic (List.map (kvE ek ev') xs) false false))⟩ ke ek tk) : JX Φ Γ (fun d : List (κ × υ) => (⟨B, c.set i (.ow (.dic (List.map (kvE ek ev') d) false false))⟩ : Ct)) xs (.dpop (.var i) ke) ev' (tk.bind fun x => popM xs x) := fun env S R v d' hv => by
  cases tk with
  | none => cases hv
  | some x =>
    have hv : popM xs x = some (v, d') := hv
    unfold popM at hv
    have h : (c.set i (.ow (.dic (List.map (kvE ek ev') xs) false false)))[i]? = some (.ow (.dic (List.map (kvE ek ev') xs) false false)) := List.getElem?_set_self hi
    cases hg : getM xs x with
    | none => rw [hg] at hv; cases hv
    | some w =>
      rw [hg] at hv
      cases hv
      obtain ⟨q, e1, e2, m⟩ := Rel.mut R h
      have ev1 : ev Φ Γ (.var i) env S = some (.obj q, S) := by rw [ev_var, e1]
      have d1 : deref S (.obj q) = some (.dict (List.map (kvE ek ev') xs)) := (deref_obj _ _ _).mpr ⟨_, e2, rfl⟩
      refine ⟨S.set q (.dic (List.map (kvE ek ev') (dropM xs x)) false false), ?_, ?_⟩
      · rw [ev_dpop, ev1]
        simp only [d1, hk env S R x rfl, dpopF, e2, K.key, if_true, getP_M K, hg, Option.map_some, dropP_M K]
      · have R2 := m (.dic (List.map (kvE ek ev') (dropM xs x)) false false) rfl
        rw [List.set_set] at R2
        exact R2
/-- .. as a statement -/
theorem js_expX {δ : Type} {C : δ → Ct} {d : δ} {e : Ex} {te : Option (α × δ)} {k : δ → Option Ω} (he : JX Φ Γ C d e ea te) (hs : ∀ d', JG Φ Γ (C d') ss sem (k d')) : JG Φ Γ (C d) (.cons (.exp e) ss) sem (te.bind fun p => k p.2) := fun env S R o ho => by
  cases te with
  | none => cases ho
  | some p =>
    obtain ⟨v, d1⟩ := p
    obtain ⟨S1, e1, R1⟩ := he env S R v d1 rfl
    have : ex Φ Γ (.exp e) env S = some (.nx, env, S1) := by rw [ex, e1]
    rw [exs_nx this]
    exact hs d1 env S1 R1 o ho
theorem js_appM {δ : Type} {C : δ → Ct} {d : δ} {i : Nat} {e : Ex} {xs : List α} {te : Option (α × δ)} {k : List α → δ → Option Ω} (h : ∀ d, (C d).c[i]? = some (.ow (.lst (xs.map ea) false))) (he : JX Φ Γ C d e ea te) (hs : ∀ ys d', JG Φ Γ ⟨(C d').B, (C d').c.set i (.ow (.lst (List.map ea ys) false))⟩ ss sem (k ys d')) : JG Φ Γ (C d) (.cons (.app (.var i) e) ss) sem (te.bind fun p => (pshO xs p.1).bind fun ys => k ys p.2) := fun env S R o ho => by
  cases te with
  | none => cases ho
  | some p =>
    obtain ⟨v, d1⟩ := p
    have ho : ((pshO xs v).bind fun ys => k ys d1) = some o := ho
    rw [pshO_def] at ho
    split at ho
    · rename_i hl
      obtain ⟨q, e1, e2, _⟩ := Rel.mut (B := (C d).B) (c := (C d).c) R (h d)
      have ev1 : ev Φ Γ (.var i) env S = some (.obj q, S) := by rw [ev_var, e1]
      have dr : deref S (.obj q) = some (.list (xs.map ea)) := (deref_obj _ _ _).mpr ⟨_, e2, rfl⟩
      obtain ⟨S1, h1, R1⟩ := he env S R v d1 rfl
      obtain ⟨q', f1, f2, m⟩ := Rel.mut (B := (C d1).B) (c := (C d1).c) R1 (h d1)
      rw [e1] at f1
      cases f1
      have : ex Φ Γ (.app (.var i) e) env S = some (.nx, env, S1.set q (.lst (List.map ea (xs ++ [v])) false)) := by
        rw [ex, ev1]
        simp only [dr, h1, appF, frz_d, f2, List.length_map, hl, if_true, Option.map_some, List.map_append, List.map_cons, List.map_nil]
      rw [exs_nx this]
      exact hs _ _ _ _ (m _ rfl) o ho
    · cases ho
theorem je_bindI {it : Itx} {e : Ex} {eb : β → PyData} {tx : Option (List α)} {F : List α → Option β} (hi : JI0 Φ Γ C it ea tx) (h : ∀ xs, JI0 Φ Γ C it ea (some xs) → JE Φ Γ C e eb (F xs)) : JE Φ Γ C e eb (tx.bind F) := by
  cases tx with
  | none => exact fun env S R v hv => by cases hv
  | some xs => exact h xs hi
/-- a reading told apart -/
theorem je_unG {e : Ex} {eb : β → PyData} {te : Option α} (f : α → Option β) (hf : ∀ x y, f x = some y → ea x = eb y) (h : JE Φ Γ C e ea te) : JE Φ Γ C e eb (te.bind f) := fun env S R v hv => by
  cases te with
  | none => cases hv
  | some x =>
    have hv : f x = some v := hv
    rw [← hf x v hv]
    exact h env S R x rfl
theorem jx_blt2 {δ : Type} {C : δ → Ct} {d : δ} {bl : Bl} {e e' : Ex} {eb : β → PyData} {ec : γ → PyData} {ta : Option (α × δ)} {tb : δ → Option (β × δ)} (f : α → β → Option γ) (hop : ∀ x y z, f x y = some z → bltD2 bl (ea x) (eb y) = some (ec z)) (ha : JX Φ Γ C d e ea ta) (hb : ∀ d', JX Φ Γ C d' e' eb (tb d')) : JX Φ Γ C d (.blt bl (.cons e (.cons e' .nil))) ec (ta.bind fun p => (tb p.2).bind fun q => (f p.1 q.1).map fun z => (z, q.2)) := fun env S R v d' hv => by
  cases ta with
  | none => cases hv
  | some p =>
    obtain ⟨x, d1⟩ := p
    simp only [Option.bind_some] at hv
    cases hq : tb d1 with
    | none => rw [hq] at hv; cases hv
    | some q =>
      obtain ⟨y, d2⟩ := q
      rw [hq] at hv
      simp only [Option.bind_some] at hv
      cases hf : f x y with
      | none => rw [hf] at hv; cases hv
      | some z =>
        rw [hf] at hv
        cases hv
        obtain ⟨S1, e1, R1⟩ := ha env S R x d1 rfl
        obtain ⟨S2, e2, R2⟩ := hb d1 env S1 R1 y _ hq
        refine ⟨S2, ?_, R2⟩
        rw [ev_blt, x_evs_cons, e1]
        simp only [x_evs_cons, x_evs_nil, e2, bltF_dd, hop x y _ hf, Option.map_some]
/-! ### things of one's own are handed back together -/
def FzO (n : Nat) (S : Sto) : List A → List PyData → Prop
  | [], [] => True
  | a :: as, x :: xs => (a = .d x ∨ ∃ k, a = .obj k ∧ n ≤ k ∧ deref S a = some x) ∧ FzO n S as xs
  | _, _ => False
theorem FzO.mono {n : Nat} {S S' : Sto} (h : ∀ k x, n ≤ k → deref S (.obj k) = some x → deref S' (.obj k) = some x) : ∀ {as : List A} {xs : List PyData}, FzO n S as xs → FzO n S' as xs
  | [], [], _ => trivial
  | a :: as, x :: xs, q => by
    refine ⟨?_, FzO.mono h q.2⟩
    rcases q.1 with e | ⟨k, rfl, h1, h2⟩
    · exact .inl e
    · exact .inr ⟨k, rfl, h1, h k x h1 h2⟩
  | [], _ :: _, q => q.elim
  | _ :: _, [], q => q.elim
theorem frz_own {B X : Sto} {k : Nat} {x : PyData} (hk : B.length ≤ k) (d : deref (B ++ X) (.obj k) = some x) (hX : X.all Ob.flat = true) : ∃ X1, frz (B ++ X) (.obj k) = some (x, B ++ X1) ∧ X1.all Ob.flat = true ∧ ∀ k' y, deref (B ++ X) (.obj k') = some y → deref (B ++ X1) (.obj k') = some y := by
  obtain ⟨o, e1, e2⟩ := (deref_obj _ _ _).mp d
  have hl : k < (B ++ X).length := by
    rcases Nat.lt_or_ge k (B ++ X).length with z | z
    · exact z
    · rw [List.getElem?_eq_none z] at e1
      cases e1
  have go : ∀ o', obD o' = some x → o'.flat = true → ∃ X1, (B ++ X).set k o' = B ++ X1 ∧ X1.all Ob.flat = true ∧ ∀ k' y, deref (B ++ X) (.obj k') = some y → deref (B ++ X1) (.obj k') = some y := fun o' ho fo => by
    refine ⟨X.set (k - B.length) o', app_set hk, flat_all_set hX fo, fun k' y dy => ?_⟩
    rw [← app_set hk]
    obtain ⟨o2, f1, f2⟩ := (deref_obj _ _ _).mp dy
    by_cases hk' : k' = k
    · subst hk'
      rw [e1] at f1
      cases f1
      rw [e2] at f2
      cases f2
      exact (deref_obj _ _ _).mpr ⟨o', List.getElem?_set_self hl, ho⟩
    · exact (deref_obj _ _ _).mpr ⟨o2, by rw [List.getElem?_set_ne (Ne.symm hk')]; exact f1, f2⟩
  cases o with
  | ins _ _ => cases e2
  | lst xs fz =>
    cases e2
    obtain ⟨X1, g1, g2, g3⟩ := go (.lst xs true) rfl rfl
    exact ⟨X1, by simp only [frz, e1, g1], g2, g3⟩
  | dic kvs fz lk =>
    cases e2
    obtain ⟨X1, g1, g2, g3⟩ := go (.dic kvs true lk) rfl rfl
    exact ⟨X1, by simp only [frz, e1, g1], g2, g3⟩
theorem frzAll_own {B : Sto} : ∀ {as : List A} {xs : List PyData} {X : Sto}, FzO B.length (B ++ X) as xs → X.all Ob.flat = true → ∃ X1, frzAll as (B ++ X) = some (xs, B ++ X1) ∧ X1.all Ob.flat = true
  | [], [], X, _, hX => ⟨X, rfl, hX⟩
  | a :: as, x :: xs, X, q, hX => by
    rcases q.1 with rfl | ⟨k, rfl, h1, h2⟩
    · obtain ⟨X1, g1, g2⟩ := frzAll_own q.2 hX
      exact ⟨X1, by rw [frzAll_d, g1], g2⟩
    · obtain ⟨X1, g1, g2, g3⟩ := frz_own h1 h2 hX
      obtain ⟨X2, f1, f2⟩ := frzAll_own (FzO.mono (fun k x _ d => g3 k x d) q.2) g2
      exact ⟨X2, by rw [frzAll, g1]; simp only [f1], f2⟩
  | [], _ :: _, _, q, _ => q.elim
  | _ :: _, [], _, q, _ => q.elim
def JF (Φ : List Fs) (Γ : List PyData) (C : Ct) (es : Exs) {α : Type} (ds : α → List PyData) (t : Option α) : Prop := ∀ env S, Rel C env S → ∀ v, t = some v → ∃ as, evs Φ Γ es env S = some (as, S) ∧ FzO C.B.length S as (ds v)
theorem jf_nil : JF Φ Γ C .nil (fun _ : Unit => []) (some ()) := fun env S R v hv => ⟨[], x_evs_nil .., trivial⟩
theorem jf_cons {e : Ex} {es : Exs} {ta : Option α} {tb : Option β} {ds : β → List PyData} (h : JE Φ Γ C e ea ta) (hs : JF Φ Γ C es ds tb) : JF Φ Γ C (.cons e es) (fun v : α × β => ea v.1 :: ds v.2) (ta.bind fun x => tb.map fun y => (x, y)) := fun env S R v hv => by
  cases ta with
  | none => cases hv
  | some x =>
    cases tb with
    | none => cases hv
    | some y =>
      cases hv
      obtain ⟨as, e2, q⟩ := hs env S R y rfl
      refine ⟨.d (ea x) :: as, ?_, .inl rfl, q⟩
      rw [x_evs_cons, h env S R x rfl]
      simp only [e2]
theorem jf_ow {i : Nat} {s : Sl} {es : Exs} {x : α} {tb : Option β} {ds : β → List PyData} (h : C.c[i]? = some s) (hx : (∃ o, s = .ow o ∧ obD o = some (ea x)) ∨ s = .ro (ea x)) (hs : JF Φ Γ C es ds tb) : JF Φ Γ C (.cons (.var i) es) (fun v : α × β => ea v.1 :: ds v.2) (tb.map fun y => (x, y)) := fun env S R v hv => by
  cases tb with
  | none => cases hv
  | some y =>
    cases hv
    obtain ⟨as, e2, q⟩ := hs env S R y rfl
    obtain ⟨a, e1, d1⟩ := R.see h (x := ea x) (by rcases hx with ⟨o, rfl, ho⟩ | rfl <;> simp [*])
    refine ⟨a :: as, ?_, ?_, q⟩
    · rw [x_evs_cons, ev_var, e1]
      simp only [e2]
    · obtain ⟨l, p, ρ, inj, ok⟩ := R
      have qq := ok i s h
      have ej : env[i]?.join = some a := by rw [e1]; rfl
      rw [ej] at qq
      rcases hx with ⟨o, rfl, ho⟩ | rfl
      · obtain ⟨q1, q2, q3⟩ := qq
        cases q1
        exact .inr ⟨_, rfl, q2, d1⟩
      · obtain ⟨a', ea', lo⟩ := qq
        cases ea'
        rcases lo with lo | ⟨k, lo, h2, _, _⟩
        · exact .inl lo
        · exact .inr ⟨k, lo, h2, d1⟩
theorem js_retF {er : ρ → PyData} {es : Exs} {ta : Option α} {ds : α → List PyData} (h : JF Φ Γ C es ds ta) (f : α → ρ) (hp : ∀ v, .tuple (ds v) = er (f v)) : JG Φ Γ C (.cons (.ret (.tup es)) ss) (semR er fun _ => C.B) (ta.map f) := fun env S R o ho => by
  cases ta with
  | none => cases ho
  | some v =>
    cases ho
    obtain ⟨as, e1, q⟩ := h env S R v rfl
    obtain ⟨X, rfl, hX⟩ := R.pre
    obtain ⟨X1, g1, g2⟩ := frzAll_own q hX
    have e2 : ev Φ Γ (.tup es) env (C.B ++ X) = some (.d (er (f v)), C.B ++ X1) := by
      rw [ev_tup, e1]
      simp only [g1, hp]
    exact ⟨env, _, X1, by rw [r_rt (r_ret e2)], rfl, g2⟩
theorem js_retFX {er : ρ → PyData} {es : Exs} {ta : Option α} {ds : α → List PyData} (h : JF Φ Γ C es ds ta) (f : α → ρ) (hp : ∀ v, .tuple (ds v) = er (f v)) : JG Φ Γ C (.cons (.ret (.tup es)) ss) (semX (semR er fun _ => C.B)) (ta.map f) := semR_notnx (js_retF h f hp)
/-- one thing of one's own -/
theorem js_retV {er : ρ → PyData} {i : Nat} {s : Sl} {x : ρ} (h : C.c[i]? = some s) (hx : (∃ o, s = .ow o ∧ obD o = some (er x)) ∨ s = .ro (er x)) : JG Φ Γ C (.cons (.ret (.var i)) ss) (semR er fun _ => C.B) (some x) := fun env S R o ho => by
  cases ho
  obtain ⟨as, e1, q⟩ := jf_ow (Φ := Φ) (Γ := Γ) (ea := er) (x := x) h hx jf_nil env S R (x, ()) rfl
  obtain ⟨X, rfl, hX⟩ := R.pre
  obtain ⟨X1, g1, g2⟩ := frzAll_own q hX
  match as, q with
  | [a], q =>
    have e2 : ev Φ Γ (.var i) env (C.B ++ X) = some (a, C.B ++ X) := by
      rw [x_evs_cons] at e1
      cases hv : ev Φ Γ (.var i) env (C.B ++ X) with
      | none => rw [hv] at e1; cases e1
      | some z =>
        obtain ⟨a', S'⟩ := z
        rw [hv] at e1
        simp only [x_evs_nil, Option.some.injEq, Prod.mk.injEq, List.cons.injEq, and_true] at e1
        rw [e1.1, e1.2]
    have e3 : frz (C.B ++ X) a = some (er x, C.B ++ X1) := by
      unfold frzAll at g1
      cases hf : frz (C.B ++ X) a with
      | none => rw [hf] at g1; cases g1
      | some z =>
        obtain ⟨y, S'⟩ := z
        rw [hf] at g1
        simp only [frzAll_nil, Option.some.injEq, Prod.mk.injEq, List.cons.injEq, and_true] at g1
        rw [g1.1, g1.2]
    have : ex Φ Γ (.ret (.var i)) env (C.B ++ X) = some (.rt (.d (er x)), env, C.B ++ X1) := by
      rw [ex, e2]
      simp only [e3]
    exact ⟨env, _, X1, by rw [r_rt this], rfl, g2⟩
theorem js_retVX {er : ρ → PyData} {i : Nat} {s : Sl} {x : ρ} (h : C.c[i]? = some s) (hx : (∃ o, s = .ow o ∧ obD o = some (er x)) ∨ s = .ro (er x)) : JG Φ Γ C (.cons (.ret (.var i)) ss) (semX (semR er fun _ => C.B)) (some x) := semR_notnx (js_retV h hx)
end
/-! ### a, b = .., .. where new things come before draws -/
section
variable {Φ : List Fs} {Γ : List PyData} {B : Sto} {k : Nat} {c : List Sl} {d : Dr} {α β Ω κ υ : Type} {ea : α → PyData} {ss : Ss} {sem : Ω → Res → Prop} {ek : κ → PyData} {ev' : υ → PyData}
def JXQ (Φ : List Fs) (Γ : List PyData) (B : Sto) (k : Nat) (c : List Sl) (d : Dr) (ts : Tgs) (es : Exs) (U : α → List (Nat × Sl)) (t : Option (α × Dr)) : Prop := ∀ env S, Rel (CB B k c d) env S → ∀ v d', t = some (v, d') → ∃ as S' env2, evs Φ Γ es env S = some (as, S') ∧ bnds Φ Γ ts as env S' = some (env2, S') ∧ Rel (CB B k (setAll c (U v)) d') env2 S'
theorem jxq_nil : JXQ Φ Γ B k c d .nil .nil (fun _ : Unit => []) (some ((), d)) := fun env S R v d' hv => by
  cases hv
  exact ⟨[], S, env, x_evs_nil .., x_bn .., R⟩
theorem jxq_va {i : Nat} {e : Ex} {ts : Tgs} {es : Exs} {ta : Option (α × Dr)} {tb : Dr → Option (β × Dr)} {U : β → List (Nat × Sl)} (h : JX Φ Γ (CB B k c) d e ea ta) (hn : ∀ x env S, evs Φ Γ es (env.set i x) S = evs Φ Γ es env S) (hs : ∀ x d', JXQ Φ Γ B k (c.set i (.va (ea x))) d' ts es U (tb d')) : JXQ Φ Γ B k c d (.cons (.nm i) ts) (.cons e es) (fun v : α × β => (i, .va (ea v.1)) :: U v.2) (ta.bind fun p => (tb p.2).map fun q => ((p.1, q.1), q.2)) := fun env S R v d' hv => by
  cases ta with
  | none => cases hv
  | some p =>
    obtain ⟨x, d1⟩ := p
    simp only [Option.bind_some] at hv
    cases hq : tb d1 with
    | none => rw [hq] at hv; cases hv
    | some q =>
      obtain ⟨y, d2⟩ := q
      rw [hq] at hv
      simp only [Option.map_some, Option.some.injEq, Prod.mk.injEq] at hv
      obtain ⟨rfl, rfl⟩ := hv
      obtain ⟨S0, e1, R1⟩ := h env S R x d1 rfl
      obtain ⟨as, S', env2, e2, e3, R2⟩ := hs x d1 _ S0 (Rel.va (B := B.set k (dO d1)) (c := c) R1 i (ea x)) y _ hq
      rw [hn] at e2
      exact ⟨.d (ea x) :: as, S', env2, by rw [x_evs_cons, e1]; simp only [e2], by rw [x_bc, x_bnm]; exact e3, R2⟩
theorem jxq_new {i : Nat} {e : Ex} {ts : Tgs} {es : Exs} {ta : Option (List α × Dr)} {tb : Dr → Option (β × Dr)} {U : β → List (Nat × Sl)} (h : JX Φ Γ (CB B k c) d e (eL ea) ta) (hn : ∀ x env S, evs Φ Γ es (env.set i x) S = evs Φ Γ es env S) (hs : ∀ x d', JXQ Φ Γ B k (c.set i (.ow (.lst (List.map ea x) false))) d' ts es U (tb d')) : JXQ Φ Γ B k c d (.cons (.nm i) ts) (.cons (.fresh e) es) (fun v : List α × β => (i, .ow (.lst (List.map ea v.1) false)) :: U v.2) (ta.bind fun p => (tb p.2).map fun q => ((p.1, q.1), q.2)) := fun env S R v d' hv => by
  cases ta with
  | none => cases hv
  | some p =>
    obtain ⟨x, d1⟩ := p
    simp only [Option.bind_some] at hv
    cases hq : tb d1 with
    | none => rw [hq] at hv; cases hv
    | some q =>
      obtain ⟨y, d2⟩ := q
      rw [hq] at hv
      simp only [Option.map_some, Option.some.injEq, Prod.mk.injEq] at hv
      obtain ⟨rfl, rfl⟩ := hv
      obtain ⟨S0, e1, R1⟩ := h env S R x d1 rfl
      obtain ⟨as, S', env2, e2, e3, R2⟩ := hs x d1 _ _ (Rel.new (B := B.set k (dO d1)) (c := c) R1 i (.lst (List.map ea x) false) rfl) y _ hq
      rw [hn] at e2
      exact ⟨.obj S0.length :: as, S', env2, by rw [x_evs_cons, ev_fresh, e1]; simp only [eL, newOb, e2], by rw [x_bc, x_bnm]; exact e3, R2⟩
theorem jxq_newM {i : Nat} {e : Ex} {ts : Tgs} {es : Exs} {ta : Option (List (κ × υ) × Dr)} {tb : Dr → Option (β × Dr)} {U : β → List (Nat × Sl)} (h : JX Φ Γ (CB B k c) d e (eM ek ev') ta) (hn : ∀ x env S, evs Φ Γ es (env.set i x) S = evs Φ Γ es env S) (hs : ∀ x d', JXQ Φ Γ B k (c.set i (.ow (.dic (List.map (kvE ek ev') x) false false))) d' ts es U (tb d')) : JXQ Φ Γ B k c d (.cons (.nm i) ts) (.cons (.fresh e) es) (fun v : List (κ × υ) × β => (i, .ow (.dic (List.map (kvE ek ev') v.1) false false)) :: U v.2) (ta.bind fun p => (tb p.2).map fun q => ((p.1, q.1), q.2)) := fun env S R v d' hv => by
  cases ta with
  | none => cases hv
  | some p =>
    obtain ⟨x, d1⟩ := p
    simp only [Option.bind_some] at hv
    cases hq : tb d1 with
    | none => rw [hq] at hv; cases hv
    | some q =>
      obtain ⟨y, d2⟩ := q
      rw [hq] at hv
      simp only [Option.map_some, Option.some.injEq, Prod.mk.injEq] at hv
      obtain ⟨rfl, rfl⟩ := hv
      obtain ⟨S0, e1, R1⟩ := h env S R x d1 rfl
      obtain ⟨as, S', env2, e2, e3, R2⟩ := hs x d1 _ _ (Rel.new (B := B.set k (dO d1)) (c := c) R1 i (.dic (List.map (kvE ek ev') x) false false) rfl) y _ hq
      rw [hn] at e2
      exact ⟨.obj S0.length :: as, S', env2, by rw [x_evs_cons, ev_fresh, e1]; simp only [eM, newOb, e2], by rw [x_bc, x_bnm]; exact e3, R2⟩
theorem js_parXQ {ts : Tgs} {es : Exs} {U : α → List (Nat × Sl)} {te : Option (α × Dr)} {kk : α → Dr → Option Ω} (h : JXQ Φ Γ B k c d ts es U te) (hs : ∀ v d', JG Φ Γ (CB B k (setAll c (U v)) d') ss sem (kk v d')) : JG Φ Γ (CB B k c d) (.cons (.par ts es) ss) sem (te.bind fun p => kk p.1 p.2) := fun env S R o ho => by
  cases te with
  | none => cases ho
  | some p =>
    obtain ⟨v, d1⟩ := p
    obtain ⟨as, S', env2, e1, e2, R2⟩ := h env S R v d1 rfl
    rw [exs_nx (r_par e1 e2)]
    exact hs v d1 _ _ R2 o ho
end
/-! ### a list of one's own is held against a list -/
section
variable (Γ : List PyData)
theorem same_listV {i : Nat} (Φ : List Fs) (S : Sto) (a b : A) (xs : List PyData) (ha : deref S a = some (.list xs)) (hb : deref S b = some (.list xs)) (hx : xs.length ≤ 16777216) (h : ∀ (j : Nat) (hj : j < xs.length), ∃ m, Φ[i]? = some m ∧ m [.d xs[j], .d xs[j]] S = some (.d (.bool true), S)) : run Φ Γ 3 (bSame i) [a, b] S = some (.d (.bool true), S) := by
  have la : bltF .len [a] S = some (.d (.int xs.length)) := by rw [bltF_de ha]; rfl
  have lb : bltF .len [b] S = some (.d (.int xs.length)) := by rw [bltF_de hb]; rfl
  have h1 : ev Φ Γ (.isi (.var 1) [.list, .tuple]) [some a, some b, none] S = some (.d (.bool true), S) := by simp [ev_isi, ev_var, hb, typeOk, ty_ll, ty_lt, ty_tl]
  have h2 : ev Φ Γ (.or (.cons (.cmp .NotEq (.isi (.var 1) [.list]) (.isi (.var 0) [.list])) (.cons (.cmp .NotEq (.isi (.var 1) [.tuple]) (.isi (.var 0) [.tuple])) .nil))) [some a, some b, none] S = some (.d (.bool false), S) := by
    simp [ev_isi, ev_or, evOr, ev_cmp, ev_var, ha, hb, typeOk, ty_ll, ty_lt, ty_tl, cmpF_ne, eqvD_bool, Exs.isNil, tru_bool]
  have h3 : ev Φ Γ (.cmp .NotEq (.blt .len (.cons (.var 0) .nil)) (.blt .len (.cons (.var 1) .nil))) [some a, some b, none] S = some (.d (.bool false), S) := by
    simp [ev_cmp, ev_blt, evs, ev_var, la, lb, cmpF_ne, eqvD_int]
  have h4 : evI Φ Γ (.rng (.blt .len (.cons (.var 1) .nil))) [some a, some b, none] S = some ((List.range xs.length).map fun k => PyData.int (k : Nat), none, S) := by
    have hr := rng_nat _ hx
    simp [evI, ev_blt, evs, ev_var, lb, hr]
  have h5 := compL_all (cF Φ Γ A.d (.nm 2) .nil (.call i (.cons (.ix (.var 0) (.var 2)) (.cons (.ix (.var 1) (.var 2)) .nil))) [some a, some b, none]) S (.bool true) ((List.range xs.length).map fun k => PyData.int (k : Nat)) fun x hx' => by
    obtain ⟨j, hj, rfl⟩ := List.mem_map.mp hx'
    have hj := List.mem_range.mp hj
    have hat : atI xs (j : Int) = some xs[j] := atI_nat xs j hj
    obtain ⟨m, h1, h2⟩ := h j hj
    refine r_cf (e1 := [some a, some b, some (.d (.int (j : Nat)))]) rfl (r_call0 (as := [.d xs[j], .d xs[j]]) ?_ h1 h2)
    have ia : ixF a (.d (.int (j : Nat))) S = some (.d xs[j]) := by rw [ixF_de ha (y := .int (j : Nat)) rfl]; simp [ixD, hat]
    have ib : ixF b (.d (.int (j : Nat))) S = some (.d xs[j]) := by rw [ixF_de hb (y := .int (j : Nat)) rfl]; simp [ixD, hat]
    simp [evs, ev_ix, ev_var, ia, ib]
  rw [List.length_map, List.length_range] at h5
  exact r_run (r_rt (r_ifT h1 (r_nx (r_ifF h2 r_nil) (r_nx (r_ifF h3 r_nil) (r_rt (r_ret (x := .bool true) (r_blt (r_comp h4 h5) (by simp [bltD, boolsD_rep]))))))))
end
theorem fn_sameV {F : Nat → List Fs} {Γ : List PyData} {i : Nat} (hF : ∀ k, (F (k + 1))[i]? = some (run (F k) Γ 3 (bSame i))) {α : Type} [DecidableEq α] {e : α → PyData} (u w : Bool) (n k : Nat) (hn : n ≤ k + 1) : FnT (F (k + 1)) i (fun v : List α × List α × Unit => [(u, eL e v.1), (w, eL e v.2.1)]) (fun v => sameO (eL e) n v.1 v.2.1) eB := by
  refine ⟨_, hF k, fun S as v r hS ag hr => ⟨[], rfl, ?_⟩⟩
  obtain ⟨x, y, _⟩ := v
  by_cases c : x = y ∧ fitS n (eL e x) = true
  · have hq : (if x = y ∧ fitS n (eL e x) = true then some true else none) = some r := hr
    rw [if_pos c] at hq
    clear hr
    obtain ⟨c1, c2⟩ := c
    subst c1
    cases hq
    match as, ag with
    | [a, b], ag =>
      obtain ⟨h1, h2, _⟩ := ag
      have d1 : deref S a = some (eL e x) := by
        cases u with
        | true => rw [if_pos rfl] at h1; subst h1; rfl
        | false => exact h1
      have d2 : deref S b = some (eL e x) := by
        cases w with
        | true => rw [if_pos rfl] at h2; subst h2; rfl
        | false => exact h2
      cases n with
      | zero => simp [fitS] at c2
      | succ n =>
        simp only [eL, fitS, Bool.and_eq_true, decide_eq_true_eq] at c2
        rw [same_listV Γ (F k) S a b (x.map e) d1 d2 c2.1 fun j hj => ?_]
        · simp
          rfl
        · have hz := fitSs_get hj c2.2
          cases k with
          | zero =>
            have : n = 0 := by omega
            subst this
            simp [fitS] at hz
          | succ k => exact ⟨_, hF k, same_ok Γ F hF n _ k S hz (by omega)⟩
  · have hq : (if x = y ∧ fitS n (eL e x) = true then some true else none) = some r := hr
    rw [if_neg c] at hq
    cases hq
section
variable {α β γ δ ε ζ : Type} [DecidableEq α] [DecidableEq β] [DecidableEq γ] [DecidableEq δ] [DecidableEq ε] [DecidableEq ζ] {a : α → PyData} {b : β → PyData} {c : γ → PyData} {e : δ → PyData} {f : ε → PyData} {g : ζ → PyData}
theorem eq_P6 {d d2 d3 d4 d5 d6 : Nat} (h : EqT a d) (h2 : EqT b d2) (h3 : EqT c d3) (h4 : EqT e d4) (h5 : EqT f d5) (h6 : EqT g d6) : EqT (eP6 a b c e f g) (max d (max d2 (max d3 (max d4 (max d5 d6)))) + 1) := ⟨fun x y => by
  rw [Bool.eq_iff_iff]; simp [eP6, PyData.eqv, PyData.eqvAll, h.eqv, h2.eqv, h3.eqv, h4.eqv, h5.eqv, h6.eqv, Prod.ext_iff], fun x => by simp [eP6, PyData.canLay0, PyData.canLayAll0, h.lay, h2.lay, h3.lay, h4.lay, h5.lay, h6.lay], fun x => by have := h.dep x.1; have := h2.dep x.2.1; have := h3.dep x.2.2.1; have := h4.dep x.2.2.2.1; have := h5.dep x.2.2.2.2.1; have := h6.dep x.2.2.2.2.2; simp only [eP6, PyData.depth, PyData.depthAll]; omega⟩
end
end PV

/-! PT9: plain facts on dicts as lists of pairs; loops by index. -/
namespace PV
open PySem PySem.Spec PyProof.Rows L2
section
variable {κ υ α σ : Type} [DecidableEq κ]
/-- each key once -/
def NdM (d : List (κ × υ)) : Prop := (d.map (·.1)).Nodup
theorem NdM.tail {p : κ × υ} {d : List (κ × υ)} (h : NdM (p :: d)) : (∀ q ∈ d, q.1 ≠ p.1) ∧ NdM d := by
  unfold NdM at h
  rw [List.map_cons, List.nodup_cons] at h
  exact ⟨fun q hq e => h.1 (List.mem_map.mpr ⟨q, hq, e⟩), h.2⟩
@[simp] theorem getM_nil (k : κ) : getM ([] : List (κ × υ)) k = none := rfl
theorem getM_cons (p : κ × υ) (d : List (κ × υ)) (k : κ) : getM (p :: d) k = if p.1 = k then some p.2 else getM d k := by
  unfold getM
  rw [List.find?_cons]
  by_cases h : p.1 = k
  · simp [h]
  · simp [h]
theorem getM_none {d : List (κ × υ)} {k : κ} : getM d k = none ↔ ∀ p ∈ d, p.1 ≠ k := by
  induction d with
  | nil => simp
  | cons p d ih =>
    rw [getM_cons]
    by_cases h : p.1 = k
    · simp [h]
    · simp only [h, if_false, ih, List.mem_cons, forall_eq_or_imp, ne_eq, not_false_eq_true, true_and]
theorem getM_mem {d : List (κ × υ)} {k : κ} {v : υ} (h : getM d k = some v) : (k, v) ∈ d := by
  induction d with
  | nil => cases h
  | cons p d ih =>
    rw [getM_cons] at h
    by_cases e : p.1 = k
    · rw [if_pos e] at h
      cases h
      rw [← e]
      exact List.mem_cons_self
    · rw [if_neg e] at h
      exact List.mem_cons_of_mem _ (ih h)
theorem getM_of {d : List (κ × υ)} (n : NdM d) {k : κ} {v : υ} (h : (k, v) ∈ d) : getM d k = some v := by
  induction d with
  | nil => cases h
  | cons p d ih =>
    obtain ⟨n1, n2⟩ := n.tail
    rw [getM_cons]
    rcases List.mem_cons.mp h with e | h
    · rw [← e]
      simp
    · rw [if_neg fun z => n1 _ h z.symm]
      exact ih n2 h
theorem putM_new {d : List (κ × υ)} {k : κ} {v : υ} (h : getM d k = none) : putM d k v = d ++ [(k, v)] := by
  unfold putM
  rw [if_neg]
  rw [getM_none] at h
  simp only [List.any_eq_true, decide_eq_true_eq, not_exists, not_and]
  exact fun p hp => h p hp
theorem putM_keys {d : List (κ × υ)} {k : κ} {v : υ} (h : getM d k ≠ none) : putM d k v = d.map fun p => if p.1 = k then (p.1, v) else p := by
  unfold putM
  rw [if_pos]
  rw [Ne, getM_none] at h
  simpa using h
theorem NdM.put {d : List (κ × υ)} (n : NdM d) (k : κ) (v : υ) : NdM (putM d k v) := by
  by_cases h : getM d k = none
  · rw [putM_new h]
    unfold NdM
    rw [List.map_append, List.nodup_append]
    refine ⟨n, by simp, fun a ha b hb => ?_⟩
    rw [getM_none] at h
    obtain ⟨p, hp, rfl⟩ := List.mem_map.mp ha
    simp at hb
    subst hb
    exact h p hp
  · rw [putM_keys h]
    unfold NdM
    rw [List.map_map]
    have : ((fun p : κ × υ => p.1) ∘ fun p => if p.1 = k then (p.1, v) else p) = fun p => p.1 := by
      funext p
      simp only [Function.comp]
      split <;> rfl
    rw [this]
    exact n
theorem putM_len (d : List (κ × υ)) (k : κ) (v : υ) : (putM d k v).length ≤ d.length + 1 := by
  unfold putM
  split
  · rw [List.length_map]; omega
  · simp
theorem putM_mem {d : List (κ × υ)} {k : κ} {v : υ} {p : κ × υ} (h : p ∈ putM d k v) : p = (k, v) ∨ p ∈ d := by
  unfold putM at h
  split at h
  · obtain ⟨q, hq, rfl⟩ := List.mem_map.mp h
    by_cases e : q.1 = k
    · rw [if_pos e]
      exact .inl (by rw [e])
    · rw [if_neg e]
      exact .inr hq
  · rcases List.mem_append.mp h with h | h
    · exact .inr h
    · exact .inl (by simpa using h)
theorem putO_ok {d : List (κ × υ)} (h : d.length < 16777216) (k : κ) (v : υ) : putO d k v = some (putM d k v) := by
  rw [putO_def, if_pos h]
theorem NdM.drop {d : List (κ × υ)} (n : NdM d) (k : κ) : NdM (dropM d k) := by
  unfold NdM dropM
  exact List.Nodup.sublist (List.filter_sublist.map _) n
theorem dropM_mem {d : List (κ × υ)} {k : κ} {p : κ × υ} (h : p ∈ dropM d k) : p ∈ d := (List.mem_filter.mp h).1
theorem dropM_len (d : List (κ × υ)) (k : κ) : (dropM d k).length ≤ d.length := List.length_filter_le _ _
theorem NdM.nil : NdM ([] : List (κ × υ)) := List.nodup_nil
/-- dict(rows), each key once -/
theorem mkM_go : ∀ (rows acc : List (κ × υ)), NdM (acc ++ rows) → rows.foldl (fun acc p => putM acc p.1 p.2) acc = acc ++ rows
  | [], acc, _ => by simp
  | p :: r, acc, h => by
    have hn : getM acc p.1 = none := by
      rw [getM_none]
      intro q hq e
      unfold NdM at h
      rw [List.map_append, List.nodup_append] at h
      exact h.2.2 q.1 (List.mem_map.mpr ⟨q, hq, rfl⟩) p.1 (by simp) e
    rw [List.foldl_cons, putM_new hn, mkM_go r]
    · simp
    · simpa using h
theorem mkM_nd {rows : List (κ × υ)} (h : NdM rows) : mkM rows = rows := by
  unfold mkM
  rw [mkM_go rows [] (by simpa using h)]
  simp
/-- what it holds, key by key -/
theorem mapO_get {d : List (κ × υ)} (n : NdM d) {β : Type} (f : κ → Option β) (g : κ × υ → β) (h : ∀ p ∈ d, f p.1 = some (g p)) : mapO f (d.map (·.1)) = some (d.map g) := by
  have : mapO f (d.map (·.1)) = mapO (fun p : κ × υ => f p.1) d := by
    clear n h
    induction d with
    | nil => rfl
    | cons p d ih => rw [List.map_cons, mapO, mapO, ih]
  rw [this]
  exact mapO_eq h
theorem filO_key {d : List (κ × υ)} {β : Type} {p : κ → Option Bool} {f : κ → Option β} (q : κ × υ → Bool) (g : κ × υ → β) (h : ∀ x ∈ d, p x.1 = some (q x) ∧ (q x = true → f x.1 = some (g x))) : filO p f (d.map (·.1)) = some ((d.filter q).map g) := by
  have : filO p f (d.map (·.1)) = filO (fun x : κ × υ => p x.1) (fun x : κ × υ => f x.1) d := by
    clear h
    induction d with
    | nil => rfl
    | cons x d ih => rw [List.map_cons, filO, filO, ih]
  rw [this]
  exact filO_eq h
/-- {k: d[k] for k in d if ..} -/
theorem dcO_key {d : List (κ × υ)} {p : κ → Option Bool} {f : κ → Option κ} {g : κ → Option υ} (q : κ → Bool) (hl : d.length < 16777216) (n : NdM d) (h : ∀ x ∈ d, p x.1 = some (q x.1) ∧ f x.1 = some x.1 ∧ g x.1 = some x.2) : dcO p f g (d.map (·.1)) [] = some (d.filter fun x => q x.1) := by
  have go : ∀ (rest acc : List (κ × υ)), (∀ x ∈ rest, x ∈ d) → acc.length + rest.length < 16777216 → NdM (acc ++ rest) → dcO p f g (rest.map (·.1)) acc = some (acc ++ rest.filter fun x => q x.1) := by
    intro rest
    induction rest with
    | nil => intro acc _ _ _; simp [dcO]
    | cons x r ih =>
      intro acc hd hl nd
      obtain ⟨h1, h2, h3⟩ := h x (hd x List.mem_cons_self)
      have hd' : ∀ y ∈ r, y ∈ d := fun y hy => hd y (List.mem_cons_of_mem _ hy)
      rw [List.map_cons, dcO, h1]
      simp only [List.length_cons] at hl
      cases hq : q x.1 with
      | false =>
        simp only [hq]
        rw [ih acc hd' (by omega) ?_]
        · simp [List.filter_cons, hq]
        · unfold NdM at nd ⊢
          refine List.Nodup.sublist (List.Sublist.map _ ?_) nd
          exact List.Sublist.append (List.Sublist.refl _) (List.sublist_cons_self _ _)
      | true =>
        have hn : getM acc x.1 = none := by
          rw [getM_none]
          intro y hy e
          unfold NdM at nd
          rw [List.map_append, List.nodup_append] at nd
          exact nd.2.2 y.1 (List.mem_map.mpr ⟨y, hy, rfl⟩) x.1 (by simp) e
        simp only [hq, h2, h3, putO_ok (show acc.length < 16777216 by omega), putM_new hn]
        rw [ih _ hd' (by simp; omega) (by simpa using nd)]
        simp [List.filter_cons, hq]
  have := go d [] (fun _ hx => hx) (by simpa using hl) (by simpa using n)
  simpa using this
/-- a loop by index -/
theorem enmI_get (xs : List α) : ∀ p ∈ enmI xs, ∃ i : Nat, p.1 = (i : Int) ∧ xs[i]? = some p.2 := by
  intro p hp
  unfold enmI at hp
  obtain ⟨i, hi, e⟩ := List.getElem_of_mem hp
  simp only [List.getElem_zipWith, List.getElem_range] at e
  simp at hi
  exact ⟨i, by rw [← e], by rw [← e]; simp [hi]⟩
theorem enmI_fst (xs : List α) : (enmI xs).map (·.1) = rI 0 (xs.length : Int) := by
  unfold enmI rI
  rw [List.map_zipWith]
  apply List.ext_getElem
  · simp
  · intro i h1 h2
    simp
theorem forN_map {β : Type} {f : β → σ → Option σ} (h : α → β) : ∀ (xs : List α) (s : σ), forN f (xs.map h) s = forN (fun x => f (h x)) xs s
  | [], s => rfl
  | x :: xs, s => by
    rw [List.map_cons, forN, forN]
    cases f (h x) s with
    | none => rfl
    | some s' => exact forN_map h xs s'
theorem forN_congr {f g : α → σ → Option σ} : ∀ {xs : List α} (h : ∀ x ∈ xs, ∀ s, f x s = g x s) (s : σ), forN f xs s = forN g xs s
  | [], _, s => rfl
  | x :: xs, h, s => by
    rw [forN, forN, h x (by simp)]
    cases g x s with
    | none => rfl
    | some s' => exact forN_congr (fun y hy => h y (by simp [hy])) s'
theorem forN_idx {f : Int → σ → Option σ} {g : Int → α → σ → Option σ} {xs : List α} (h : ∀ (i : Nat) (x : α), xs[i]? = some x → ∀ s, f (i : Int) s = g (i : Int) x s) (s : σ) : forN f (rI 0 (xs.length : Int)) s = forN (fun p s => g p.1 p.2 s) (enmI xs) s := by
  rw [← enmI_fst, forN_map]
  refine forN_congr (fun p hp s => ?_) s
  obtain ⟨i, e1, e2⟩ := enmI_get xs p hp
  rw [e1]
  exact h i p.2 e2 s
theorem atI_some {xs : List α} {i : Nat} {x : α} (h : xs[i]? = some x) : atI xs (i : Int) = some x := by
  obtain ⟨h1, h2⟩ := List.getElem?_eq_some_iff.mp h
  rw [atI_nat xs i h1, h2]
/-- pairs with their numbers: the loop that leaves the numbers -/
theorem enmI_snd (xs : List α) : (enmI xs).map (·.2) = xs := by
  unfold enmI
  rw [List.map_zipWith]
  apply List.ext_getElem
  · simp
  · intro i h1 h2
    simp
end
/-! ### orders -/
structure OrdT {α : Type} (l : α → α → Bool) : Prop where
  tr : ∀ a b c, l b a = false → l c b = false → l c a = false
  tot : ∀ a b, l b a = false ∨ l a b = false
  anti : ∀ a b, l b a = false → l a b = false → a = b
theorem ltS_le' {a b : SO} : ltS a b = false ↔ b.s.cps.toList ≤ a.s.cps.toList := by
  unfold ltS
  simp only [decide_eq_false_iff_not]
  exact List.not_lt
theorem so_eq' {a b : SO} (h : a.s.cps.toList = b.s.cps.toList) : a = b := by
  apply SO.ext'
  obtain ⟨⟨⟨a⟩⟩, _⟩ := a
  obtain ⟨⟨⟨b⟩⟩, _⟩ := b
  simp at h
  subst h
  rfl
theorem ord_I : OrdT ltI := ⟨fun a b c h1 h2 => by simp [ltI] at *; omega, fun a b => by simp [ltI]; omega, fun a b h1 h2 => by simp [ltI] at *; omega⟩
theorem ord_S : OrdT ltS := ⟨fun a b c h1 h2 => by rw [ltS_le'] at *; exact List.le_trans h1 h2, fun a b => by rw [ltS_le', ltS_le']; exact List.le_total _ _, fun a b h1 h2 => by rw [ltS_le'] at *; exact so_eq' (List.le_antisymm h1 h2)⟩
section
variable {α β : Type} {l1 : α → α → Bool} {l2 : β → β → Bool}
theorem ord_P2 [DecidableEq α] (h1 : OrdT l1) (h2 : OrdT l2) : OrdT (ltP2 l1 l2) := by
  refine ⟨fun a b c q1 q2 => ?_, fun a b => ?_, fun a b q1 q2 => ?_⟩
  · obtain ⟨a1, a2⟩ := a
    obtain ⟨b1, b2⟩ := b
    obtain ⟨c1, c2⟩ := c
    simp only [ltP2] at *
    by_cases e1 : b1 = a1
    · subst e1
      rw [if_pos rfl] at q1
      by_cases e2 : c1 = b1
      · rw [if_pos e2] at q2 ⊢
        exact h2.tr _ _ _ q1 q2
      · rw [if_neg e2] at q2 ⊢
        exact q2
    · rw [if_neg e1] at q1
      by_cases e2 : c1 = b1
      · subst e2
        rw [if_neg e1]
        exact q1
      · rw [if_neg e2] at q2
        by_cases e3 : c1 = a1
        · subst e3
          exact absurd (h1.anti _ _ q2 q1) e1
        · rw [if_neg e3]
          exact h1.tr _ _ _ q1 q2
  · obtain ⟨a1, a2⟩ := a
    obtain ⟨b1, b2⟩ := b
    simp only [ltP2]
    by_cases e1 : b1 = a1
    · subst e1
      rw [if_pos rfl, if_pos rfl]
      exact h2.tot _ _
    · rw [if_neg e1, if_neg fun z => e1 z.symm]
      exact h1.tot _ _
  · obtain ⟨a1, a2⟩ := a
    obtain ⟨b1, b2⟩ := b
    simp only [ltP2] at *
    by_cases e1 : b1 = a1
    · subst e1
      rw [if_pos rfl] at q1 q2
      rw [h2.anti _ _ q1 q2]
    · rw [if_neg e1] at q1
      rw [if_neg fun z => e1 z.symm] at q2
      exact absurd (h1.anti _ _ q1 q2).symm e1
theorem srt_pw (h : OrdT l1) (xs : List α) : (srt l1 xs).Pairwise (fun a b => l1 b a = false) := by
  have := List.pairwise_mergeSort (le := fun x y => !l1 y x) (fun a b c q1 q2 => by
    simp only [Bool.not_eq_true'] at *
    exact h.tr a b c q1 q2) (fun a b => by
    simp only [Bool.or_eq_true, Bool.not_eq_true']
    exact h.tot a b) xs
  exact this.imp fun q => by simpa using q
theorem srt_perm (xs : List α) : (srt l1 xs).Perm xs := List.mergeSort_perm _ _
theorem pw_uniq (h : OrdT l1) : ∀ {xs ys : List α}, xs.Perm ys → xs.Pairwise (fun a b => l1 b a = false) → ys.Pairwise (fun a b => l1 b a = false) → xs = ys
  | [], ys, p, _, _ => by
    have := p.length_eq
    cases ys with
    | nil => rfl
    | cons _ _ => simp at this
  | x :: xs, [], p, _, _ => by
    have := p.length_eq
    simp at this
  | x :: xs, y :: ys, p, h1, h2 => by
    rw [List.pairwise_cons] at h1 h2
    have e : x = y := by
      have hx : x ∈ y :: ys := p.subset List.mem_cons_self
      have hy : y ∈ x :: xs := p.symm.subset List.mem_cons_self
      rcases List.mem_cons.mp hx with e | hx
      · exact e
      · rcases List.mem_cons.mp hy with e | hy
        · exact e.symm
        · exact h.anti x y (h1.1 y hy) (h2.1 x hx)
    subst e
    rw [pw_uniq h (List.Perm.cons_inv p) h1.2 h2.2]
theorem srt_eq (h : OrdT l1) {xs ys : List α} (p : xs.Perm ys) (q : ys.Pairwise (fun a b => l1 b a = false)) : srt l1 xs = ys := pw_uniq h ((srt_perm xs).trans p) (srt_pw h xs) q
theorem srt_id (h : OrdT l1) {xs : List α} (q : xs.Pairwise (fun a b => l1 b a = false)) : srt l1 xs = xs := srt_eq h (List.Perm.refl _) q
end
end PV

namespace KL
open PySem PySem.Spec PyProof.Rows L2 PV
def topS (i : Nat) : Stmt := PySem.Challenge.pw_hoteldays_k57_whole_connections_that_are.main.body.getD i (.Pass ⟨0, 0, 0, 0⟩)
abbrev s_is_integer : Stmt := topS 1
def b_is_integer : Ss := .cons (.ret (.and (.cons (.isi (.var 0) [.int]) (.cons (.not (.isi (.var 0) [.bool])) .nil)))) .nil
def d_is_integer : Df := ⟨"is_integer", s_is_integer, 1, ["thing"], b_is_integer⟩
-- 0:thing
abbrev s_is_number : Stmt := topS 2
def b_is_number : Ss := .cons (.ret (.and (.cons (.call 0 (.cons (.var 0) .nil)) (.cons (.cmp .GtE (.var 0) (.var 1)) (.cons (.or (.cons (.cmp .Is (.var 2) (.cst .none)) (.cons (.cmp .LtE (.var 0) (.var 2)) .nil))) .nil))))) .nil
def d_is_number : Df := ⟨"is_number", s_is_number, 3, ["thing", "least", "most"], b_is_number⟩
-- 0:thing 1:least 2:most
abbrev s_is_rising : Stmt := topS 4
abbrev c_is_rising_0 : Ex := .comp (.tp (.cons (.nm 1) (.cons (.nm 2) .nil))) (.zip (.var 0) (.slc (.var 0) (.cons (.cst (.int 1)) .nil) .nil)) .nil (.cmp .Lt (.ix (.var 1) (.cst (.int 0))) (.ix (.var 2) (.cst (.int 0))))
def b_is_rising : Ss := .cons (.ret (.blt .all (.cons c_is_rising_0 .nil))) .nil
def d_is_rising : Df := ⟨"is_rising", s_is_rising, 1, ["rows", "one", "other"], b_is_rising⟩
-- 0:rows 1:one 2:other
abbrev s_are_delays : Stmt := topS 7
abbrev c_are_delays_0 : Ex := .comp (.nm 4) (.seq (.var 0)) .nil (.ix (.var 4) (.cst (.int 0)))
abbrev l_are_delays_0 : Ss := .cons (.ifs (.or (.cons (.not (.isi (.var 3) [.tuple])) (.cons (.cmp .NotEq (.blt .len (.cons (.var 3) .nil)) (.cst (.int 2))) (.cons (.cmp .NotIn (.ix (.var 3) (.cst (.int 0))) (.var 2)) (.cons (.not (.call 1 (.cons (.ix (.var 3) (.cst (.int 1))) (.cons (.cst (.int 1)) (.cons (.cst (.int 60)) .nil))))) .nil))))) (.cons (.ret (.cst (.bool false))) .nil) .nil) .nil
def b_are_delays : Ss := .cons (.asg (.nm 2) c_are_delays_0) (.cons (.ifs (.or (.cons (.not (.isi (.var 1) [.tuple])) (.cons (.cmp .Gt (.blt .len (.cons (.var 1) .nil)) (.cst (.int 6))) .nil))) (.cons (.ret (.cst (.bool false))) .nil) .nil) (.cons (.for_ (.nm 3) (.seq (.var 1)) l_are_delays_0 [3]) (.cons (.ret (.call 2 (.cons (.var 1) .nil))) .nil)))
def d_are_delays : Df := ⟨"are_delays", s_are_delays, 2, ["rides", "thing", "names", "row", "ride"], b_are_delays⟩
-- 0:rides 1:thing 2:names 3:row 4:ride
abbrev s_is_met : Stmt := topS 8
def b_is_met : Ss := .cons (.ret (.and (.cons (.cmp .Eq (.ix (.var 1) (.cst (.int 2))) (.ix (.var 0) (.cst (.int 1)))) (.cons (.chn .LtE .LtE (.var 2) (.bin .Sub (.ix (.var 0) (.cst (.int 3))) (.ix (.var 1) (.cst (.int 4)))) (.glb 0)) .nil)))) .nil
def d_is_met : Df := ⟨"is_met", s_is_met, 3, ["ride", "other", "change"], b_is_met⟩
-- 0:ride 1:other 2:change
abbrev s_met_by : Stmt := topS 9
abbrev c_met_by_0 : Ex := .comp (.nm 5) (.seq (.var 0)) (.cons (.cmp .Eq (.ix (.var 5) (.cst (.int 0))) (.var 2)) .nil) (.var 5)
abbrev c_met_by_1 : Ex := .comp (.nm 4) (.seq (.var 0)) (.cons (.and (.cons (.cmp .NotEq (.var 4) (.var 3)) (.cons (.call 4 (.cons (.var 3) (.cons (.var 4) (.cons (.var 1) .nil)))) .nil))) .nil) (.ix (.var 4) (.cst (.int 0)))
def b_met_by : Ss := .cons (.asg (.nm 3) (.ix c_met_by_0 (.cst (.int 0)))) (.cons (.ret c_met_by_1) .nil)
def d_met_by : Df := ⟨"met_by", s_met_by, 3, ["rides", "change", "ride", "row", "other", "one"], b_met_by⟩
-- 0:rides 1:change 2:ride 3:row 4:other 5:one
abbrev s_run : Stmt := topS 10
abbrev c_run_0 : Ex := .comp (.nm 12) (.seq (.var 0)) (.cons (.cmp .Eq (.ix (.var 12) (.cst (.int 0))) (.var 7)) .nil) (.var 12)
abbrev l_run_0 : Ss := .cons (.asg (.nm 11) (.bin .Add (.ix (.ix (.var 5) (.var 10)) (.cst (.int 1))) (.var 1))) (.cons (.ifs (.cmp .LtE (.var 11) (.bin .Add (.var 6) (.var 3))) (.cons (.asg (.nm 9) (.blt .mx (.cons (.var 9) (.cons (.var 11) .nil)))) .nil) .nil) .nil)
abbrev l_run_1 : Ss := .cons (.asg (.nm 8) (.ix c_run_0 (.cst (.int 0)))) (.cons (.asg (.nm 9) (.bin .Add (.var 6) (.dgetd (.var 4) (.var 7) (.cst (.int 0))))) (.cons (.for_ (.nm 10) (.seq (.call 5 (.cons (.var 0) (.cons (.var 1) (.cons (.var 7) .nil))))) l_run_0 [10, 11]) (.cons (.asg (.sub (.var 5) (.var 7)) (.tup (.cons (.var 9) (.cons (.bin .Sub (.bin .Add (.ix (.var 8) (.cst (.int 4))) (.var 9)) (.var 6)) .nil)))) .nil)))
abbrev c_run_1 : Ex := .comp (.nm 8) (.seq (.var 0)) .nil (.tup (.cons (.ix (.var 8) (.cst (.int 3))) (.cons (.ix (.var 8) (.cst (.int 0))) .nil)))
def b_run : Ss := .cons (.asg (.nm 4) (.blt .dict (.cons (.var 2) .nil))) (.cons (.asg (.nm 5) (.fresh .dnew)) (.cons (.for_ (.tp (.cons (.nm 6) (.cons (.nm 7) .nil))) (.seq (.blt .sorted (.cons c_run_1 .nil))) l_run_1 [6, 7, 8, 9, 10, 11]) (.cons (.ret (.var 5)) .nil)))
def d_run : Df := ⟨"run", s_run, 4, ["rides", "change", "delays", "patience", "late", "found", "leaves", "name", "ride", "true", "other", "least", "one"], b_run⟩
-- 0:rides 1:change 2:delays 3:patience 4:late 5:found 6:leaves 7:name 8:ride 9:true 10:other 11:least 12:one
abbrev s_true_times : Stmt := topS 11
abbrev c_true_times_0 : Ex := .comp (.nm 5) (.seq (.blt .sorted (.cons (.var 4) .nil))) .nil (.bin .Add (.tup (.cons (.var 5) .nil)) (.ix (.var 4) (.var 5)))
def b_true_times : Ss := .cons (.asg (.nm 4) (.call 6 (.cons (.var 0) (.cons (.var 1) (.cons (.var 2) (.cons (.var 3) .nil)))))) (.cons (.ret c_true_times_0) .nil)
def d_true_times : Df := ⟨"true_times", s_true_times, 4, ["rides", "change", "delays", "patience", "found", "name"], b_true_times⟩
-- 0:rides 1:change 2:delays 3:patience 4:found 5:name
abbrev s_missed : Stmt := topS 12
abbrev l_missed_0 : Ss := .cons (.ifs (.cmp .Lt (.ix (.ix (.var 4) (.var 6)) (.cst (.int 0))) (.bin .Add (.ix (.ix (.var 4) (.var 7)) (.cst (.int 1))) (.var 1))) (.cons (.app (.var 5) (.tup (.cons (.var 6) (.cons (.var 7) .nil)))) .nil) .nil) .nil
abbrev l_missed_1 : Ss := .cons (.for_ (.nm 7) (.seq (.call 5 (.cons (.var 0) (.cons (.var 1) (.cons (.var 6) .nil))))) l_missed_0 [7]) .nil
def b_missed : Ss := .cons (.asg (.nm 4) (.call 6 (.cons (.var 0) (.cons (.var 1) (.cons (.var 2) (.cons (.var 3) .nil)))))) (.cons (.asg (.nm 5) (.fresh (.lst .nil))) (.cons (.for_ (.nm 6) (.seq (.blt .sorted (.cons (.var 4) .nil))) l_missed_1 [6, 7]) (.cons (.ret (.var 5)) .nil)))
def d_missed : Df := ⟨"missed", s_missed, 4, ["rides", "change", "delays", "patience", "found", "rows", "name", "other"], b_missed⟩
-- 0:rides 1:change 2:delays 3:patience 4:found 5:rows 6:name 7:other
abbrev s__law_draw : Stmt := topS 14
def b__law_draw : Ss := .cons (.retO (.fresh (.lst (.cons (.blt .list (.cons (.var 0) .nil)) (.cons (.cst (.int 0)) (.cons (.cst (.int 0)) (.cons (.cst (.int 17)) .nil))))))) .nil
def d__law_draw : Df := ⟨"_law_draw", s__law_draw, 1, ["script"], b__law_draw⟩
-- 0:script
abbrev s__law_next : Stmt := topS 15
def b__law_next : Ss := .cons (.ifs (.cmp .Gt (.ix (.var 0) (.cst (.int 2))) (.cst (.int 0))) (.cons (.asg (.nm 2) (.bin .Mod (.blt .int (.cons (.ix (.var 0) (.cst (.int 2))) .nil)) (.var 1))) (.cons (.asg (.sub (.var 0) (.cst (.int 2))) (.bin .FloorDiv (.ix (.var 0) (.cst (.int 2))) (.var 1))) (.cons (.ret (.var 2)) .nil))) .nil) (.cons (.ifs (.cmp .Lt (.ix (.var 0) (.cst (.int 1))) (.blt .len (.cons (.ix (.var 0) (.cst (.int 0))) .nil))) (.cons (.asg (.nm 3) (.blt .abs (.cons (.ix (.ix (.var 0) (.cst (.int 0))) (.ix (.var 0) (.cst (.int 1)))) .nil))) (.cons (.asg (.sub (.var 0) (.cst (.int 1))) (.bin .Add (.ix (.var 0) (.cst (.int 1))) (.cst (.int 1)))) (.cons (.ifs (.cmp .GtE (.var 3) (.bin .Pow (.cst (.int 10)) (.cst (.int 18)))) (.cons (.asg (.sub (.var 0) (.cst (.int 2))) (.bin .FloorDiv (.var 3) (.var 1))) (.cons (.ret (.bin .Mod (.blt .int (.cons (.var 3) .nil)) (.var 1))) .nil)) .nil) (.cons (.asg (.sub (.var 0) (.cst (.int 3))) (.bin .Mod (.blt .int (.cons (.bin .Add (.bin .Add (.bin .Mult (.ix (.var 0) (.cst (.int 3))) (.cst (.int 48271))) (.var 3)) (.cst (.int 11))) .nil)) (.cst (.int 2147483647)))) .nil)))) (.cons (.asg (.sub (.var 0) (.cst (.int 3))) (.bin .Mod (.blt .int (.cons (.bin .Add (.bin .Mult (.ix (.var 0) (.cst (.int 3))) (.cst (.int 48271))) (.cst (.int 12345))) .nil)) (.cst (.int 2147483647)))) .nil)) (.cons (.ret (.bin .Mod (.bin .FloorDiv (.blt .int (.cons (.bin .Mod (.bin .Mult (.ix (.var 0) (.cst (.int 3))) (.cst (.int 69621))) (.cst (.int 2147483629))) .nil)) (.cst (.int 7))) (.var 1))) .nil))
def d__law_next : Df := ⟨"_law_next", s__law_next, 2, ["draw", "many", "found", "cell"], b__law_next⟩
-- 0:draw 1:many 2:found 3:cell
abbrev s__law_same : Stmt := topS 16
abbrev c__law_same_0 : Ex := .comp (.nm 2) (.rng (.blt .len (.cons (.var 1) .nil))) .nil (.call 11 (.cons (.ix (.var 0) (.var 2)) (.cons (.ix (.var 1) (.var 2)) .nil)))
def b__law_same : Ss := .cons (.ifs (.isi (.var 1) [.list, .tuple]) (.cons (.ifs (.or (.cons (.cmp .NotEq (.isi (.var 1) [.list]) (.isi (.var 0) [.list])) (.cons (.cmp .NotEq (.isi (.var 1) [.tuple]) (.isi (.var 0) [.tuple])) .nil))) (.cons (.ret (.cst (.bool false))) .nil) .nil) (.cons (.ifs (.cmp .NotEq (.blt .len (.cons (.var 0) .nil)) (.blt .len (.cons (.var 1) .nil))) (.cons (.ret (.cst (.bool false))) .nil) .nil) (.cons (.ret (.blt .all (.cons c__law_same_0 .nil))) .nil))) .nil) (.cons (.ifs (.cmp .Is (.var 1) (.cst .none)) (.cons (.ret (.cmp .Is (.var 0) (.cst .none))) .nil) .nil) (.cons (.ifs (.cmp .NotEq (.isi (.var 1) [.bool]) (.isi (.var 0) [.bool])) (.cons (.ret (.cst (.bool false))) .nil) .nil) (.cons (.ifs (.isi (.var 1) [.str]) (.cons (.ret (.and (.cons (.isi (.var 0) [.str]) (.cons (.cmp .Eq (.var 0) (.var 1)) .nil)))) .nil) .nil) (.cons (.ret (.and (.cons (.isi (.var 0) [.int]) (.cons (.cmp .Eq (.var 0) (.var 1)) .nil)))) .nil))))
def d__law_same : Df := ⟨"_law_same", s__law_same, 2, ["actual", "wanted", "k"], b__law_same⟩
-- 0:actual 1:wanted 2:k
abbrev s__law_rides : Stmt := topS 17
abbrev c__law_rides_0 : Ex := .comp (.nm 7) (.rng (.cst (.int 3))) (.cons (.cmp .NotEq (.var 7) (.var 4)) .nil) (.var 7)
abbrev l__law_rides_0 : Ss := .cons (.par (.cons (.nm 4) (.cons (.nm 5) .nil)) (.cons (.call 10 (.cons (.var 0) (.cons (.cst (.int 3)) .nil))) (.cons (.call 10 (.cons (.var 0) (.cons (.cst (.int 20)) .nil))) .nil))) (.cons (.asg (.nm 6) (.ix c__law_rides_0 (.call 10 (.cons (.var 0) (.cons (.cst (.int 2)) .nil))))) (.cons (.app (.var 2) (.tup (.cons (.var 3) (.cons (.ix (.lst (.cons (.cst (.str "inn")) (.cons (.cst (.str "port")) (.cons (.cst (.str "spa")) .nil)))) (.var 4)) (.cons (.ix (.lst (.cons (.cst (.str "inn")) (.cons (.cst (.str "port")) (.cons (.cst (.str "spa")) .nil)))) (.var 6)) (.cons (.var 5) (.cons (.bin .Add (.bin .Add (.var 5) (.cst (.int 1))) (.call 10 (.cons (.var 0) (.cons (.cst (.int 9)) .nil)))) (.cons (.bin .Add (.cst (.int 1)) (.call 10 (.cons (.var 0) (.cons (.cst (.int 2)) .nil)))) .nil)))))))) .nil))
def b__law_rides : Ss := .cons (.asg (.nm 2) (.fresh (.lst .nil))) (.cons (.for_ (.nm 3) (.seq (.slc (.lst (.cons (.cst (.str "ra")) (.cons (.cst (.str "rb")) (.cons (.cst (.str "rc")) (.cons (.cst (.str "rd")) (.cons (.cst (.str "re")) .nil)))))) .nil (.cons (.call 10 (.cons (.var 0) (.cons (.bin .Add (.var 1) (.cst (.int 1))) .nil))) .nil))) l__law_rides_0 [3, 4, 5, 6]) (.cons (.ret (.blt .tuple (.cons (.var 2) .nil))) .nil))
def d__law_rides : Df := ⟨"_law_rides", s__law_rides, 2, ["draw", "most", "found", "ride", "one", "leaves", "other", "j"], b__law_rides⟩
-- 0:draw 1:most 2:found 3:ride 4:one 5:leaves 6:other 7:j
abbrev s__law_true : Stmt := topS 18
abbrev c__law_true_0 : Ex := .comp (.nm 11) (.seq (.var 0)) (.cons (.cmp .Eq (.ix (.var 11) (.cst (.int 0))) (.var 7)) .nil) (.var 11)
abbrev l__law_true_0 : Ss := .cons (.ifs (.and (.cons (.cmp .Eq (.ix (.var 10) (.cst (.int 2))) (.ix (.var 8) (.cst (.int 1)))) (.cons (.chn .LtE .LtE (.var 1) (.bin .Sub (.var 6) (.ix (.var 10) (.cst (.int 4)))) (.cst (.int 30))) (.cons (.cmp .LtE (.bin .Add (.ix (.ix (.var 4) (.ix (.var 10) (.cst (.int 0)))) (.cst (.int 1))) (.var 1)) (.bin .Add (.var 6) (.var 3))) .nil)))) (.cons (.app (.var 9) (.bin .Add (.ix (.ix (.var 4) (.ix (.var 10) (.cst (.int 0)))) (.cst (.int 1))) (.var 1))) .nil) .nil) .nil
abbrev l__law_true_1 : Ss := .cons (.asg (.nm 8) (.ix c__law_true_0 (.cst (.int 0)))) (.cons (.asg (.nm 9) (.fresh (.lst (.cons (.bin .Add (.var 6) (.dgetd (.var 5) (.var 7) (.cst (.int 0)))) .nil)))) (.cons (.for_ (.nm 10) (.seq (.var 0)) l__law_true_0 [10]) (.cons (.asg (.sub (.var 4) (.var 7)) (.tup (.cons (.blt .mx (.cons (.var 9) .nil)) (.cons (.bin .Sub (.bin .Add (.ix (.var 8) (.cst (.int 4))) (.blt .mx (.cons (.var 9) .nil))) (.var 6)) .nil)))) .nil)))
abbrev c__law_true_1 : Ex := .comp (.nm 11) (.seq (.var 0)) .nil (.tup (.cons (.ix (.var 11) (.cst (.int 3))) (.cons (.ix (.var 11) (.cst (.int 0))) .nil)))
def b__law_true : Ss := .cons (.par (.cons (.nm 4) (.cons (.nm 5) .nil)) (.cons (.fresh .dnew) (.cons (.blt .dict (.cons (.var 2) .nil)) .nil))) (.cons (.for_ (.tp (.cons (.nm 6) (.cons (.nm 7) .nil))) (.seq (.blt .sorted (.cons c__law_true_1 .nil))) l__law_true_1 [6, 7, 8, 9, 10]) (.cons (.ret (.var 4)) .nil))
def d__law_true : Df := ⟨"_law_true", s__law_true, 4, ["rides", "change", "delays", "patience", "found", "late", "leaves", "name", "own", "times", "other", "ride"], b__law_true⟩
-- 0:rides 1:change 2:delays 3:patience 4:found 5:late 6:leaves 7:name 8:own 9:times 10:other 11:ride
abbrev s_law : Stmt := topS 19
abbrev c_law_0 : Ex := .comp (.nm 8) (.seq (.var 2)) (.cons (.cmp .Eq (.call 10 (.cons (.var 1) (.cons (.cst (.int 3)) .nil))) (.cst (.int 0))) .nil) (.tup (.cons (.ix (.var 8) (.cst (.int 0))) (.cons (.bin .Add (.cst (.int 1)) (.call 10 (.cons (.var 1) (.cons (.cst (.int 15)) .nil)))) .nil)))
abbrev c_law_1 : Ex := .comp (.nm 12) (.seq (.var 2)) (.cons (.and (.cons (.cmp .Eq (.ix (.var 12) (.cst (.int 2))) (.ix (.var 8) (.cst (.int 1)))) (.cons (.chn .LtE .LtE (.var 3) (.bin .Sub (.ix (.var 8) (.cst (.int 3))) (.ix (.var 12) (.cst (.int 4)))) (.cst (.int 30))) .nil))) .nil) (.ix (.var 12) (.cst (.int 0)))
abbrev c_law_2 : Ex := .comp (.nm 9) (.seq (.var 11)) (.cons (.cmp .Lt (.bin .Sub (.ix (.ix (.var 6) (.ix (.var 8) (.cst (.int 0)))) (.cst (.int 0))) (.ix (.ix (.var 6) (.var 9)) (.cst (.int 1)))) (.var 3)) .nil) (.tup (.cons (.ix (.var 8) (.cst (.int 0))) (.cons (.var 9) .nil)))
abbrev l_law_0 : Ss := .cons (.asg (.nm 11) c_law_1) (.cons (.ifs (.not (.call 11 (.cons (.call 5 (.cons (.var 2) (.cons (.var 3) (.cons (.ix (.var 8) (.cst (.int 0))) .nil)))) (.cons (.var 11) .nil)))) (.cons (.ret (.cst (.bool false))) .nil) .nil) (.cons (.asg (.nm 7) (.bin .Add (.var 7) c_law_2)) .nil))
abbrev c_law_3 : Ex := .comp (.nm 8) (.seq (.var 2)) .nil (.bin .Add (.tup (.cons (.ix (.var 8) (.cst (.int 0))) .nil)) (.ix (.var 6) (.ix (.var 8) (.cst (.int 0)))))
abbrev c_law_4 : Ex := .comp (.nm 8) (.seq (.var 2)) .nil (.tup (.cons (.ix (.var 8) (.cst (.int 0))) (.cons (.ix (.var 8) (.cst (.int 3))) (.cons (.ix (.var 8) (.cst (.int 4))) .nil))))
def b_law : Ss := .cons (.asg (.nm 1) (.call 9 (.cons (.var 0) .nil))) (.cons (.par (.cons (.nm 2) (.cons (.nm 3) (.cons (.nm 4) .nil))) (.cons (.call 12 (.cons (.var 1) (.cons (.cst (.int 5)) .nil))) (.cons (.call 10 (.cons (.var 1) (.cons (.cst (.int 4)) .nil))) (.cons (.call 10 (.cons (.var 1) (.cons (.cst (.int 12)) .nil))) .nil)))) (.cons (.asg (.nm 5) (.blt .tuple (.cons c_law_0 .nil))) (.cons (.ifs (.cmp .IsNot (.call 3 (.cons (.var 2) (.cons (.var 5) .nil))) (.cst (.bool true))) (.cons (.ret (.cst (.bool false))) .nil) .nil) (.cons (.par (.cons (.nm 6) (.cons (.nm 7) .nil)) (.cons (.call 13 (.cons (.var 2) (.cons (.var 3) (.cons (.var 5) (.cons (.var 4) .nil))))) (.cons (.lst .nil) .nil))) (.cons (.for_ (.nm 8) (.seq (.var 2)) l_law_0 [8, 11]) (.cons (.ifs (.or (.cons (.not (.call 11 (.cons (.call 7 (.cons (.var 2) (.cons (.var 3) (.cons (.var 5) (.cons (.var 4) .nil))))) (.cons c_law_3 .nil)))) (.cons (.not (.call 11 (.cons (.call 8 (.cons (.var 2) (.cons (.var 3) (.cons (.var 5) (.cons (.var 4) .nil))))) (.cons (.var 7) .nil)))) .nil))) (.cons (.ret (.cst (.bool false))) .nil) .nil) (.cons (.ifs (.or (.cons (.cmp .NotEq (.call 7 (.cons (.var 2) (.cons (.var 3) (.cons (.tup .nil) (.cons (.var 4) .nil))))) c_law_4) (.cons (.cmp .NotEq (.call 8 (.cons (.var 2) (.cons (.var 3) (.cons (.tup .nil) (.cons (.var 4) .nil))))) (.lst .nil)) .nil))) (.cons (.ret (.cst (.bool false))) .nil) .nil) (.cons (.asg (.nm 9) (.ite (.cmp .NotEq (.var 2) (.tup .nil)) (.ix (.ix (.var 2) (.cst (.int 0))) (.cst (.int 0))) (.cst (.str "ra")))) (.cons (.asg (.nm 10) (.lst (.cons (.cst .none) (.cons (.lst (.cons (.tup (.cons (.var 9) (.cons (.cst (.int 5)) .nil))) .nil)) (.cons (.tup (.cons (.tup (.cons (.var 9) .nil)) .nil)) (.cons (.tup (.cons (.tup (.cons (.cst (.str "zz")) (.cons (.cst (.int 5)) .nil))) .nil)) (.cons (.tup (.cons (.tup (.cons (.var 9) (.cons (.cst (.int 0)) .nil))) .nil)) (.cons (.tup (.cons (.tup (.cons (.var 9) (.cons (.cst (.int 61)) .nil))) .nil)) (.cons (.tup (.cons (.tup (.cons (.var 9) (.cons (.cst (.int 5)) .nil))) (.cons (.tup (.cons (.var 9) (.cons (.cst (.int 5)) .nil))) .nil))) (.cons (.tup (.cons (.tup (.cons (.var 9) (.cons (.cst (.int 5)) .nil))) (.cons (.tup (.cons (.var 9) (.cons (.cst (.int 6)) .nil))) .nil))) .nil)))))))))) (.cons (.ret (.cmp .Is (.call 3 (.cons (.var 2) (.cons (.ix (.var 10) (.call 10 (.cons (.var 1) (.cons (.cst (.int 8)) .nil)))) .nil))) (.cst (.bool false)))) .nil))))))))))
def d_law : Df := ⟨"law", s_law, 1, ["script", "draw", "rides", "change", "patience", "delays", "due", "rows", "ride", "name", "wrong", "near", "other"], b_law⟩
-- 0:script 1:draw 2:rides 3:change 4:patience 5:delays 6:due 7:rows 8:ride 9:name 10:wrong 11:near 12:other
def ds : List Df := [d_is_integer, d_is_number, d_is_rising, d_are_delays, d_is_met, d_met_by, d_run, d_true_times, d_missed, d__law_draw, d__law_next, d__law_same, d__law_rides, d__law_true, d_law]
def gl : List Str := ["LONGEST"]
def gam : List PyData := [.int 30]
theorem ag_is_integer : dfOk (nmOf ds gl) d_is_integer = true := by decide +kernel
theorem ag_is_number : dfOk (nmOf ds gl) d_is_number = true := by decide +kernel
theorem ag_is_rising : dfOk (nmOf ds gl) d_is_rising = true := by decide +kernel
theorem ag_are_delays : dfOk (nmOf ds gl) d_are_delays = true := by decide +kernel
theorem ag_is_met : dfOk (nmOf ds gl) d_is_met = true := by decide +kernel
theorem ag_met_by : dfOk (nmOf ds gl) d_met_by = true := by decide +kernel
theorem ag_run : dfOk (nmOf ds gl) d_run = true := by decide +kernel
theorem ag_true_times : dfOk (nmOf ds gl) d_true_times = true := by decide +kernel
theorem ag_missed : dfOk (nmOf ds gl) d_missed = true := by decide +kernel
theorem ag__law_draw : dfOk (nmOf ds gl) d__law_draw = true := by decide +kernel
theorem ag__law_next : dfOk (nmOf ds gl) d__law_next = true := by decide +kernel
theorem ag__law_same : dfOk (nmOf ds gl) d__law_same = true := by decide +kernel
theorem ag__law_rides : dfOk (nmOf ds gl) d__law_rides = true := by decide +kernel
theorem ag__law_true : dfOk (nmOf ds gl) d__law_true = true := by decide +kernel
theorem ag_law : dfOk (nmOf ds gl) d_law = true := by decide +kernel
theorem ag : ds.all (dfOk (nmOf ds gl)) = true := by
  unfold ds
  simp only [List.all_cons, List.all_nil, Bool.and_true, Bool.and_eq_true]
  exact ⟨ag_is_integer, ag_is_number, ag_is_rising, ag_are_delays, ag_is_met, ag_met_by, ag_run, ag_true_times, ag_missed, ag__law_draw, ag__law_next, ag__law_same, ag__law_rides, ag__law_true, ag_law⟩
end KL

set_option maxHeartbeats 0
set_option synthInstance.maxHeartbeats 0
set_option synthInstance.maxSize 4000
namespace KL
open PySem PySem.Spec PyProof.Rows L2 PV
noncomputable abbrev F (k : Nat) : List Fs := Ph gam ds k
theorem g_is_integer (k : Nat) : (F (k + 1))[0]? = some (run (F k) gam 1 b_is_integer) := rfl
theorem g_is_number (k : Nat) : (F (k + 1))[1]? = some (run (F k) gam 3 b_is_number) := rfl
theorem g_is_rising (k : Nat) : (F (k + 1))[2]? = some (run (F k) gam 3 b_is_rising) := rfl
theorem g_are_delays (k : Nat) : (F (k + 1))[3]? = some (run (F k) gam 5 b_are_delays) := rfl
theorem g_is_met (k : Nat) : (F (k + 1))[4]? = some (run (F k) gam 3 b_is_met) := rfl
theorem g_met_by (k : Nat) : (F (k + 1))[5]? = some (run (F k) gam 6 b_met_by) := rfl
theorem g_run (k : Nat) : (F (k + 1))[6]? = some (run (F k) gam 13 b_run) := rfl
theorem g_true_times (k : Nat) : (F (k + 1))[7]? = some (run (F k) gam 6 b_true_times) := rfl
theorem g_missed (k : Nat) : (F (k + 1))[8]? = some (run (F k) gam 8 b_missed) := rfl
theorem g__law_draw (k : Nat) : (F (k + 1))[9]? = some (run (F k) gam 1 b__law_draw) := rfl
theorem g__law_next (k : Nat) : (F (k + 1))[10]? = some (run (F k) gam 4 b__law_next) := rfl
theorem g__law_same (k : Nat) : (F (k + 1))[11]? = some (run (F k) gam 3 b__law_same) := rfl
theorem g__law_rides (k : Nat) : (F (k + 1))[12]? = some (run (F k) gam 8 b__law_rides) := rfl
theorem g__law_true (k : Nat) : (F (k + 1))[13]? = some (run (F k) gam 12 b__law_true) := rfl
theorem g_law (k : Nat) : (F (k + 1))[14]? = some (run (F k) gam 13 b_law) := rfl
theorem nx_at (k : Nat) (h : 1 ≤ k) : (F k)[10]? = some (run (F (k - 1)) gam 4 bNext) := match k, h with
  | k + 1, _ => g__law_next k
theorem same_atV {α : Type} [DecidableEq α] {e : α → PyData} (u w : Bool) (n k : Nat) (h : n ≤ k ∧ 1 ≤ k) : FnT (F k) 11 (fun v : List α × List α × Unit => [(u, eL e v.1), (w, eL e v.2.1)]) (fun v => sameO (eL e) n v.1 v.2.1) eB := match k, h with
  | k + 1, h => fn_sameV (F := F) (Γ := gam) g__law_same u w n k h.1
theorem same_at {α : Type} [DecidableEq α] {e : α → PyData} (n k : Nat) (h : n ≤ k ∧ 1 ≤ k) : FnT (F k) 11 (fun v : α × α × Unit => [(true, e v.1), (true, e v.2.1)]) (fun v => sameO e n v.1 v.2.1) eB := match k, h with
  | k + 1, h => fn_same (F := F) (Γ := gam) g__law_same n k h.1
def tailS : Ss → Ss
  | .cons _ ss => ss
  | .nil => .nil
def q_ra : SO := sl "ra" (by decide +kernel)
def q_rb : SO := sl "rb" (by decide +kernel)
def q_rc : SO := sl "rc" (by decide +kernel)
def q_rd : SO := sl "rd" (by decide +kernel)
def q_re : SO := sl "re" (by decide +kernel)
def q_inn : SO := sl "inn" (by decide +kernel)
def q_port : SO := sl "port" (by decide +kernel)
def q_spa : SO := sl "spa" (by decide +kernel)
def q_zz : SO := sl "zz" (by decide +kernel)
def f_is_integer (thing : PyData) : (Option Bool) :=
  (Option.bind (if notDic thing = true then some (List.any ([.int] : List Ty) fun t => typeOk thing t) else none) fun x1 => (if x1 = true then (Option.map (fun x => !x) (if notDic thing = true then some (List.any ([.bool] : List Ty) fun t => typeOk thing t) else none)) else some false))
theorem t_is_integer (k : Nat) (hk : 0 ≤ k) (S : Sto) (hS : S.all Ob.flat = true) (thing : PyData) : JG (F k) gam (startC S [(true, eR thing)] 1) b_is_integer (semR eB fun _ => S) (f_is_integer thing) :=
  JG.of (js_ctx (C' := (⟨S, [.va (eR thing)]⟩ : Ct)) rfl (js_ret (JE.of (t' := (Option.bind (if notDic thing = true then some (List.any ([.int] : List Ty) fun t => typeOk thing t) else none) fun x1 => (if x1 = true then (Option.map (fun x => !x) (if notDic thing = true then some (List.any ([.bool] : List Ty) fun t => typeOk thing t) else none)) else some false))) (je_and (JE.of (t' := (if notDic thing = true then some (List.any ([.int] : List Ty) fun t => typeOk thing t) else none)) (je_isiR (JE.v (je_var (ea := eR) (v := thing) rfl))) (by simp only [ob1, ob2, ob3, ob4])) (JE.of (t' := (Option.map (fun x => !x) (if notDic thing = true then some (List.any ([.bool] : List Ty) fun t => typeOk thing t) else none))) (je_and1 (JE.of (t' := (Option.map (fun x => !x) (if notDic thing = true then some (List.any ([.bool] : List Ty) fun t => typeOk thing t) else none))) (je_not (JT.of (t' := (if notDic thing = true then some (List.any ([.bool] : List Ty) fun t => typeOk thing t) else none)) (jt_b (JE.of (t' := (if notDic thing = true then some (List.any ([.bool] : List Ty) fun t => typeOk thing t) else none)) (je_isiR (JE.v (je_var (ea := eR) (v := thing) rfl))) (by simp only [ob1, ob2, ob3, ob4]))) (by simp only [ob1, ob2, ob3, ob4]))) (by simp only [ob1, ob2, ob3, ob4]))) (by simp only [ob1, ob2, ob3, ob4]))) (by simp only [ob1, ob2, ob3, ob4])))) rfl
theorem m_is_integer (k : Nat) (hk : 1 ≤ k) : FnT (F k) 0 (fun v : PyData × Unit => [(true, eR v.1)]) (fun v => f_is_integer v.1) eB := match k, hk with
  | k + 1, hk => fn_of (g_is_integer k) fun S v hS => t_is_integer k (by omega) S hS v.1
def f_is_integer_vI (thing : Int) : Bool :=
  (true && (!false))
theorem t_is_integer_vI (k : Nat) (hk : 0 ≤ k) (S : Sto) (hS : S.all Ob.flat = true) (thing : Int) : JG (F k) gam (startC S [(true, eI thing)] 1) b_is_integer (semR eB fun _ => S) (some (f_is_integer_vI thing)) :=
  JG.of (js_ctx (C' := (⟨S, [.va (eI thing)]⟩ : Ct)) rfl (js_ret (JE.of (t' := (some (true && (!false)))) (je_andT (JE.of (je_isi (fun _ => true) (fun _ => ⟨rfl, rfl⟩) (JE.v (je_var (ea := eI) (v := thing) rfl))) rfl) (JE.of (je_and1 (JE.of (je_not (JT.of (jt_b (JE.of (je_isi (fun _ => false) (fun _ => ⟨rfl, rfl⟩) (JE.v (je_var (ea := eI) (v := thing) rfl))) rfl)) rfl)) rfl)) rfl)) rfl))) rfl
theorem m_is_integer_vI (k : Nat) (hk : 1 ≤ k) : FnT (F k) 0 (fun v : Int × Unit => [(true, eI v.1)]) (fun v => some (f_is_integer_vI v.1)) eB := match k, hk with
  | k + 1, hk => fn_of (g_is_integer k) fun S v hS => t_is_integer_vI k (by omega) S hS v.1
def f_is_number (thing : PyData) (least : Int) (most : Int) : (Option Bool) :=
  (Option.bind (f_is_integer thing) fun x3 => (if x3 = true then (Option.bind (cmpD .GtE thing (eI least)) fun x2 => (if x2 = true then (if false = true then some true else (cmpD .LtE thing (eI most))) else some false)) else some false))
theorem t_is_number (k : Nat) (hk : 1 ≤ k) (S : Sto) (hS : S.all Ob.flat = true) (thing : PyData) (least : Int) (most : Int) : JG (F k) gam (startC S [(true, eR thing), (true, eI least), (true, eI most)] 3) b_is_number (semR eB fun _ => S) (f_is_number thing least most) :=
  JG.of (js_ctx (C' := (⟨S, [.va (eR thing), .va (eI least), .va (eI most)]⟩ : Ct)) rfl (js_ret (JE.of (t' := (Option.bind (f_is_integer thing) fun x3 => (if x3 = true then (Option.bind (cmpD .GtE thing (eI least)) fun x2 => (if x2 = true then (if false = true then some true else (cmpD .LtE thing (eI most))) else some false)) else some false))) (je_and (JE.of (t' := (f_is_integer thing)) (je_call (ja_cons (je_var (ea := eR) (v := thing) rfl) ja_nil) (m_is_integer _ (by omega)) hS) (by simp only [ob1, ob2, ob3, ob4])) (JE.of (t' := (Option.bind (cmpD .GtE thing (eI least)) fun x2 => (if x2 = true then (if false = true then some true else (cmpD .LtE thing (eI most))) else some false))) (je_and (JE.of (t' := (cmpD .GtE thing (eI least))) (je_cmp (fun x y => cmpD .GtE x y) (fun _ _ _ h => h) (JE.v (je_var (ea := eR) (v := thing) rfl)) (JE.v (JE.of (JE.enc (ea' := eR) (f := fun v => (eI v)) (je_var (ea := eI) (v := least) rfl) (fun _ => rfl)) rfl))) (by simp only [ob1, ob2, ob3, ob4])) (JE.of (t' := (if false = true then some true else (cmpD .LtE thing (eI most)))) (je_and1 (JE.of (t' := (if false = true then some true else (cmpD .LtE thing (eI most)))) (je_or (JE.of (je_isF (fun _ => rfl) (je_var (ea := eI) (v := most) rfl)) rfl) (JE.of (t' := (cmpD .LtE thing (eI most))) (je_or1 (JE.of (t' := (cmpD .LtE thing (eI most))) (je_cmp (fun x y => cmpD .LtE x y) (fun _ _ _ h => h) (JE.v (je_var (ea := eR) (v := thing) rfl)) (JE.v (JE.of (JE.enc (ea' := eR) (f := fun v => (eI v)) (je_var (ea := eI) (v := most) rfl) (fun _ => rfl)) rfl))) (by simp only [ob1, ob2, ob3, ob4]))) (by simp only [ob1, ob2, ob3, ob4]))) (by simp only [ob1, ob2, ob3, ob4]))) (by simp only [ob1, ob2, ob3, ob4]))) (by simp only [ob1, ob2, ob3, ob4]))) (by simp only [ob1, ob2, ob3, ob4])))) rfl
theorem m_is_number (k : Nat) (hk : 2 ≤ k) : FnT (F k) 1 (fun v : PyData × Int × Int × Unit => [(true, eR v.1), (true, eI v.2.1), (true, eI v.2.2.1)]) (fun v => f_is_number v.1 v.2.1 v.2.2.1) eB := match k, hk with
  | k + 1, hk => fn_of (g_is_number k) fun S v hS => t_is_number k (by omega) S hS v.1 v.2.1 v.2.2.1
def f_is_number_vI (thing : Int) (least : Int) (most : Int) : Bool :=
  ((f_is_integer_vI thing) && ((decide (thing ≥ least)) && (false || (decide (thing ≤ most)))))
theorem t_is_number_vI (k : Nat) (hk : 1 ≤ k) (S : Sto) (hS : S.all Ob.flat = true) (thing : Int) (least : Int) (most : Int) : JG (F k) gam (startC S [(true, eI thing), (true, eI least), (true, eI most)] 3) b_is_number (semR eB fun _ => S) (some (f_is_number_vI thing least most)) :=
  JG.of (js_ctx (C' := (⟨S, [.va (eI thing), .va (eI least), .va (eI most)]⟩ : Ct)) rfl (js_ret (JE.of (t' := (some ((f_is_integer_vI thing) && ((decide (thing ≥ least)) && (false || (decide (thing ≤ most))))))) (je_andT (JE.of (je_call (ja_cons (je_var (ea := eI) (v := thing) rfl) ja_nil) (m_is_integer_vI _ (by omega)) hS) rfl) (JE.of (je_andT (JE.of (je_cmp (fun x y => some (decide (x ≥ y))) (fun x y z h => by rw [o_geI]; exact h) (JE.v (je_var (ea := eI) (v := thing) rfl)) (JE.v (je_var (ea := eI) (v := least) rfl))) rfl) (JE.of (je_and1 (JE.of (je_orT (JE.of (je_isF (fun _ => rfl) (je_var (ea := eI) (v := most) rfl)) rfl) (JE.of (je_or1 (JE.of (je_cmp (fun x y => some (decide (x ≤ y))) (fun x y z h => by rw [o_leI]; exact h) (JE.v (je_var (ea := eI) (v := thing) rfl)) (JE.v (je_var (ea := eI) (v := most) rfl))) rfl)) rfl)) rfl)) rfl)) rfl)) rfl))) rfl
theorem m_is_number_vI (k : Nat) (hk : 2 ≤ k) : FnT (F k) 1 (fun v : Int × Int × Int × Unit => [(true, eI v.1), (true, eI v.2.1), (true, eI v.2.2.1)]) (fun v => some (f_is_number_vI v.1 v.2.1 v.2.2.1)) eB := match k, hk with
  | k + 1, hk => fn_of (g_is_number k) fun S v hS => t_is_number_vI k (by omega) S hS v.1 v.2.1 v.2.2.1
def f_is_rising (rows : PyData) : (Option Bool) :=
  (Option.bind (Option.bind (Option.bind (Option.bind (some rows) fun x1 => Option.bind (Option.map some (some (1 : Int))) fun l2 => Option.bind (some none) fun h3 => slcD x1 l2 h3) fun y5 => (zipR rows y5)) fun xs => (mapO (fun (x6 : (PyData × PyData)) => (Option.bind (ixD x6.1 (.int (0 : Int))) fun x7 => (Option.bind (ixD x6.2 (.int (0 : Int))) fun y8 => (cmpD .Lt x7 y8)))) xs)) fun x9 => some (List.all x9 id))
theorem t_is_rising (k : Nat) (hk : 0 ≤ k) (S : Sto) (hS : S.all Ob.flat = true) (rows : PyData) : JG (F k) gam (startC S [(true, eR rows)] 3) b_is_rising (semR eB fun _ => S) (f_is_rising rows) :=
  JG.of (js_ctx (C' := (⟨S, [.va (eR rows), .no, .no]⟩ : Ct)) rfl (js_ret (JE.of (t' := (Option.bind (Option.bind (Option.bind (Option.bind (some rows) fun x1 => Option.bind (Option.map some (some (1 : Int))) fun l2 => Option.bind (some none) fun h3 => slcD x1 l2 h3) fun y5 => (zipR rows y5)) fun xs => (mapO (fun (x6 : (PyData × PyData)) => (Option.bind (ixD x6.1 (.int (0 : Int))) fun x7 => (Option.bind (ixD x6.2 (.int (0 : Int))) fun y8 => (cmpD .Lt x7 y8)))) xs)) fun x9 => some (List.all x9 id))) (je_blt (fun x => some (List.all x id)) o_all (JE.v (JE.of (t' := (Option.bind (Option.bind (Option.bind (some rows) fun x1 => Option.bind (Option.map some (some (1 : Int))) fun l2 => Option.bind (some none) fun h3 => slcD x1 l2 h3) fun y5 => (zipR rows y5)) fun xs => (mapO (fun (x6 : (PyData × PyData)) => (Option.bind (ixD x6.1 (.int (0 : Int))) fun x7 => (Option.bind (ixD x6.2 (.int (0 : Int))) fun y8 => (cmpD .Lt x7 y8)))) xs))) (je_map (C' := (fun x6 : (PyData × PyData) => (⟨S, [.va (eR rows), .va (eR x6.1), .va (eR x6.2)]⟩ : Ct))) (g := fun (x6 : (PyData × PyData)) => (Option.bind (ixD x6.1 (.int (0 : Int))) fun x7 => (Option.bind (ixD x6.2 (.int (0 : Int))) fun y8 => (cmpD .Lt x7 y8)))) (JI0.i (JI0.of (t' := (Option.bind (Option.bind (some rows) fun x1 => Option.bind (Option.map some (some (1 : Int))) fun l2 => Option.bind (some none) fun h3 => slcD x1 l2 h3) fun y5 => (zipR rows y5))) (ji_zipR (je_var (ea := eR) (v := rows) rfl) (JE.of (t' := (Option.bind (some rows) fun x1 => Option.bind (Option.map some (some (1 : Int))) fun l2 => Option.bind (some none) fun h3 => slcD x1 l2 h3)) (je_slcR (JE.v (je_var (ea := eR) (v := rows) rfl)) (jo_cons (je_cst (ea := eI) (v := 1) rfl)) jo_nil) (by simp only [ob1, ob2, ob3, ob4]))) (by simp only [ob1, ob2, ob3, ob4]))) (fun x6 => (jb_pr (eR x6.1) (eR x6.2) rfl (jbs_cons (jb_nm 1 _) (jbs_cons (jb_nm 2 _) jbs_nil)))) (fun x6 => (JE.of (t' := (Option.bind (ixD x6.1 (.int (0 : Int))) fun x7 => (Option.bind (ixD x6.2 (.int (0 : Int))) fun y8 => (cmpD .Lt x7 y8)))) (je_cmp (fun x y => cmpD .Lt x y) (fun _ _ _ h => h) (JE.v (JE.of (t' := (ixD x6.1 (.int (0 : Int)))) (je_ix (eb := eI) (ec := eR) (fun x y => ixD x (.int y)) (fun _ _ _ h => h) (JE.v (je_var (ea := eR) (v := x6.1) rfl)) (JE.v (je_cst (ea := eI) (v := 0) rfl))) (by simp only [ob1, ob2, ob3, ob4]))) (JE.v (JE.of (t' := (ixD x6.2 (.int (0 : Int)))) (je_ix (eb := eI) (ec := eR) (fun x y => ixD x (.int y)) (fun _ _ _ h => h) (JE.v (je_var (ea := eR) (v := x6.2) rfl)) (JE.v (je_cst (ea := eI) (v := 0) rfl))) (by simp only [ob1, ob2, ob3, ob4])))) (by simp only [ob1, ob2, ob3, ob4])))) (by simp only [ob1, ob2, ob3, ob4])))) (by simp only [ob1, ob2, ob3, ob4])))) rfl
theorem m_is_rising (k : Nat) (hk : 1 ≤ k) : FnT (F k) 2 (fun v : PyData × Unit => [(true, eR v.1)]) (fun v => f_is_rising v.1) eB := match k, hk with
  | k + 1, hk => fn_of (g_is_rising k) fun S v hS => t_is_rising k (by omega) S hS v.1
def f_is_rising_vT (rows : (List (SO × Int))) : (Option Bool) :=
  (Option.bind (Option.map (fun xs => (List.map (fun (x1 : ((SO × Int) × (SO × Int))) => (ltS x1.1.1 x1.2.1)) xs)) (zipO rows (cutG rows (some (1 : Int)) none))) fun x2 => some (List.all x2 id))
theorem t_is_rising_vT (k : Nat) (hk : 0 ≤ k) (S : Sto) (hS : S.all Ob.flat = true) (rows : (List (SO × Int))) : JG (F k) gam (startC S [(true, (eT (eP2 eT1 eI)) rows)] 3) b_is_rising (semR eB fun _ => S) (f_is_rising_vT rows) :=
  JG.of (js_ctx (C' := (⟨S, [.va ((eT (eP2 eT1 eI)) rows), .no, .no]⟩ : Ct)) rfl (js_ret (JE.of (t' := (Option.bind (Option.map (fun xs => (List.map (fun (x1 : ((SO × Int) × (SO × Int))) => (ltS x1.1.1 x1.2.1)) xs)) (zipO rows (cutG rows (some (1 : Int)) none))) fun x2 => some (List.all x2 id))) (je_blt (fun x => some (List.all x id)) o_all (JE.v (JE.of (t' := (Option.map (fun xs => (List.map (fun (x1 : ((SO × Int) × (SO × Int))) => (ltS x1.1.1 x1.2.1)) xs)) (zipO rows (cutG rows (some (1 : Int)) none)))) (je_mapT (C' := (fun x1 : ((SO × Int) × (SO × Int)) => (⟨S, [.va ((eT (eP2 eT1 eI)) rows), .va ((eP2 eT1 eI) x1.1), .va ((eP2 eT1 eI) x1.2)]⟩ : Ct))) (g := fun (x1 : ((SO × Int) × (SO × Int))) => (ltS x1.1.1 x1.2.1)) (JI0.i (JI0.of (t' := (zipO rows (cutG rows (some (1 : Int)) none))) (ji_zip (fun v => v) (fun v => v) (.inr ⟨fun _ => rfl, fun _ => rfl⟩) (je_var (ea := (eT (eP2 eT1 eI))) (v := rows) rfl) (JE.of (je_slc (fun x l h => (cutG x l h)) o_slcT (JE.v (je_var (ea := (eT (eP2 eT1 eI))) (v := rows) rfl)) (jo_cons (je_cst (ea := eI) (v := 1) rfl)) jo_nil) rfl)) (by simp only [ob1, ob2, ob3, ob4]))) (fun x1 => (jb_pr ((eP2 eT1 eI) x1.1) ((eP2 eT1 eI) x1.2) rfl (jbs_cons (jb_nm 1 _) (jbs_cons (jb_nm 2 _) jbs_nil)))) (fun x1 => (JE.of (je_cmp (fun x y => some (ltS x y)) (fun x y z h => by rw [o_lt lt_S (by decide)]; exact h) (JE.v (JE.of (je_at (ec := eT1) (fun v => v.1) (fun _ => rfl) (JE.v (je_var (ea := (eP2 eT1 eI)) (v := x1.1) rfl)) (JE.of (je_cst (ea := eI) (v := 0) rfl) rfl)) rfl)) (JE.v (JE.of (je_at (ec := eT1) (fun v => v.1) (fun _ => rfl) (JE.v (je_var (ea := (eP2 eT1 eI)) (v := x1.2) rfl)) (JE.of (je_cst (ea := eI) (v := 0) rfl) rfl)) rfl))) rfl))) (by simp only [ob1, ob2, ob3, ob4])))) (by simp only [ob1, ob2, ob3, ob4])))) rfl
theorem m_is_rising_vT (k : Nat) (hk : 1 ≤ k) : FnT (F k) 2 (fun v : (List (SO × Int)) × Unit => [(true, (eT (eP2 eT1 eI)) v.1)]) (fun v => f_is_rising_vT v.1) eB := match k, hk with
  | k + 1, hk => fn_of (g_is_rising k) fun S v hS => t_is_rising_vT k (by omega) S hS v.1
def f_are_delays (rides : (List (SO × SO × SO × Int × Int × Int))) (thing : PyData) : (Option Bool) :=
  (let names_1 : (List SO) := (List.map (fun (ride_2 : (SO × SO × SO × Int × Int × Int)) => ride_2.1) rides); (Option.bind (Option.bind (Option.map (fun x => !x) (if notDic thing = true then some (List.any ([.tuple] : List Ty) fun t => typeOk thing t) else none)) fun x5 => (if x5 = true then some true else (Option.bind (lenD thing) fun x3 => (some (decide (x3 > (6 : Int))))))) fun b17 => (if b17 = true then (some false) else (Option.bind (itemsR thing) fun xs => (ouK (forO (fun (row_7 : PyData) (st6 : Unit) => (Option.bind (Option.bind (Option.map (fun x => !x) (if notDic row_7 = true then some (List.any ([.tuple] : List Ty) fun t => typeOk row_7 t) else none)) fun x15 => (if x15 = true then some true else (Option.bind (Option.bind (lenD row_7) fun x8 => (some (!decide (x8 = (2 : Int))))) fun x14 => (if x14 = true then some true else (Option.bind (Option.bind (ixD row_7 (.int (0 : Int))) fun x10 => (cmpD .NotIn x10 ((eL eT1) names_1))) fun x13 => (if x13 = true then some true else (Option.map (fun x => !x) (Option.bind (ixD row_7 (.int (1 : Int))) fun y12 => (f_is_number y12 (1 : Int) (60 : Int)))))))))) fun b16 => (if b16 = true then (some (.rt false)) else (some (.nx ()))))) xs ()) id fun st6 => (f_is_rising thing))))))
theorem t_are_delays (k : Nat) (hk : 2 ≤ k) (S : Sto) (hS : S.all Ob.flat = true) (rides : (List (SO × SO × SO × Int × Int × Int))) (thing : PyData) : JG (F k) gam (startC S [(true, (eT (eP6 eT1 eT1 eT1 eI eI eI)) rides), (true, eR thing)] 5) b_are_delays (semR eB fun _ => S) (f_are_delays rides thing) :=
  JG.of (js_ctx (C' := (⟨S, [.va ((eT (eP6 eT1 eT1 eT1 eI eI eI)) rides), .va (eR thing), .no, .no, .no]⟩ : Ct)) rfl (js_asg (C' := fun names_1 => (⟨S, [.va ((eT (eP6 eT1 eT1 eT1 eI eI eI)) rides), .va (eR thing), .va ((eL eT1) names_1), .no, .no]⟩ : Ct)) (JE.of (t' := (some (List.map (fun (ride_2 : (SO × SO × SO × Int × Int × Int)) => ride_2.1) rides))) (je_mapT (C' := (fun ride_2 : (SO × SO × SO × Int × Int × Int) => (⟨S, [.va ((eT (eP6 eT1 eT1 eT1 eI eI eI)) rides), .va (eR thing), .no, .no, .va ((eP6 eT1 eT1 eT1 eI eI eI) ride_2)]⟩ : Ct))) (g := fun (ride_2 : (SO × SO × SO × Int × Int × Int)) => ride_2.1) (JI0.i (JI0.of (t' := (some rides)) (ji_seq0 (fun v => v) (fun _ => .inr rfl) (je_var (ea := (eT (eP6 eT1 eT1 eT1 eI eI eI))) (v := rides) rfl)) rfl)) (fun ride_2 => (jb_nm 4 _)) (fun ride_2 => (JE.of (je_at (ec := eT1) (fun v => v.1) (fun _ => rfl) (JE.v (je_var (ea := (eP6 eT1 eT1 eT1 eI eI eI)) (v := ride_2) rfl)) (JE.of (je_cst (ea := eI) (v := 0) rfl) rfl)) rfl))) rfl) (fun _ => jb_nm 2 _) (fun names_1 => (js_wk (c' := [.no, .va (eR thing), .va ((eL eT1) names_1), .no, .no]) (.cons (.no _) (.cons (.eq _) (.cons (.eq _) (.cons (.no _) (.cons (.no _) .nil))))) (js_ctx (C' := (⟨S, [.no, .va (eR thing), .va ((eL eT1) names_1), .no, .no]⟩ : Ct)) rfl (js_ifx (JT.of (t' := (Option.bind (Option.map (fun x => !x) (if notDic thing = true then some (List.any ([.tuple] : List Ty) fun t => typeOk thing t) else none)) fun x5 => (if x5 = true then some true else (Option.bind (lenD thing) fun x3 => (some (decide (x3 > (6 : Int)))))))) (jt_or (JT.of (t' := (Option.map (fun x => !x) (if notDic thing = true then some (List.any ([.tuple] : List Ty) fun t => typeOk thing t) else none))) (jt_b (JE.of (t' := (Option.map (fun x => !x) (if notDic thing = true then some (List.any ([.tuple] : List Ty) fun t => typeOk thing t) else none))) (je_not (JT.of (t' := (if notDic thing = true then some (List.any ([.tuple] : List Ty) fun t => typeOk thing t) else none)) (jt_b (JE.of (t' := (if notDic thing = true then some (List.any ([.tuple] : List Ty) fun t => typeOk thing t) else none)) (je_isiR (JE.v (je_var (ea := eR) (v := thing) rfl))) (by simp only [ob1, ob2, ob3, ob4]))) (by simp only [ob1, ob2, ob3, ob4]))) (by simp only [ob1, ob2, ob3, ob4]))) (by simp only [ob1, ob2, ob3, ob4])) (JT.of (t' := (Option.bind (lenD thing) fun x3 => (some (decide (x3 > (6 : Int)))))) (jt_or1 (JT.of (t' := (Option.bind (lenD thing) fun x3 => (some (decide (x3 > (6 : Int)))))) (jt_b (JE.of (t' := (Option.bind (lenD thing) fun x3 => (some (decide (x3 > (6 : Int)))))) (je_cmp (fun x y => some (decide (x > y))) (fun x y z h => by rw [o_gtI]; exact h) (JE.v (JE.of (t' := (lenD thing)) (je_blt (fun x => lenD x) o_lenR (JE.v (je_var (ea := eR) (v := thing) rfl))) (by simp only [ob1, ob2, ob3, ob4]))) (JE.v (je_cst (ea := eI) (v := 6) rfl))) (by simp only [ob1, ob2, ob3, ob4]))) (by simp only [ob1, ob2, ob3, ob4]))) (by simp only [ob1, ob2, ob3, ob4]))) (by simp only [ob1, ob2, ob3, ob4])) (js_retXR (JE.of (t' := (some false)) (je_cst (ea := eB) (v := false) rfl) rfl)) (js_forO (L := (fun st6 : Unit => (⟨S, [.no, .va (eR thing), .va ((eL eT1) names_1), .no, .no]⟩ : Ct))) (C' := (fun (row_7 : PyData) (st6 : Unit) => (⟨S, [.no, .va (eR thing), .va ((eL eT1) names_1), .va (eR row_7), .no]⟩ : Ct))) (s0 := ()) (mk := id) (f := (fun (row_7 : PyData) (st6 : Unit) => (Option.bind (Option.bind (Option.map (fun x => !x) (if notDic row_7 = true then some (List.any ([.tuple] : List Ty) fun t => typeOk row_7 t) else none)) fun x15 => (if x15 = true then some true else (Option.bind (Option.bind (lenD row_7) fun x8 => (some (!decide (x8 = (2 : Int))))) fun x14 => (if x14 = true then some true else (Option.bind (Option.bind (ixD row_7 (.int (0 : Int))) fun x10 => (cmpD .NotIn x10 ((eL eT1) names_1))) fun x13 => (if x13 = true then some true else (Option.map (fun x => !x) (Option.bind (ixD row_7 (.int (1 : Int))) fun y12 => (f_is_number y12 (1 : Int) (60 : Int)))))))))) fun b16 => (if b16 = true then (some (.rt false)) else (some (.nx ())))))) mk_R (JI0.of (t' := (itemsR thing)) (ji_seqR (je_var (ea := eR) (v := thing) rfl)) (by simp only [ob1, ob2, ob3, ob4])) (.cons (.no _) (.cons (.eq _) (.cons (.eq _) (.cons (.no _) (.cons (.no _) .nil))))) rfl (fun _ => rfl) (fun row_7 st6 => (jb_nm 3 _)) (fun row_7 st6 => (JG.of (js_ifx (JT.of (t' := (Option.bind (Option.map (fun x => !x) (if notDic row_7 = true then some (List.any ([.tuple] : List Ty) fun t => typeOk row_7 t) else none)) fun x15 => (if x15 = true then some true else (Option.bind (Option.bind (lenD row_7) fun x8 => (some (!decide (x8 = (2 : Int))))) fun x14 => (if x14 = true then some true else (Option.bind (Option.bind (ixD row_7 (.int (0 : Int))) fun x10 => (cmpD .NotIn x10 ((eL eT1) names_1))) fun x13 => (if x13 = true then some true else (Option.map (fun x => !x) (Option.bind (ixD row_7 (.int (1 : Int))) fun y12 => (f_is_number y12 (1 : Int) (60 : Int))))))))))) (jt_or (JT.of (t' := (Option.map (fun x => !x) (if notDic row_7 = true then some (List.any ([.tuple] : List Ty) fun t => typeOk row_7 t) else none))) (jt_b (JE.of (t' := (Option.map (fun x => !x) (if notDic row_7 = true then some (List.any ([.tuple] : List Ty) fun t => typeOk row_7 t) else none))) (je_not (JT.of (t' := (if notDic row_7 = true then some (List.any ([.tuple] : List Ty) fun t => typeOk row_7 t) else none)) (jt_b (JE.of (t' := (if notDic row_7 = true then some (List.any ([.tuple] : List Ty) fun t => typeOk row_7 t) else none)) (je_isiR (JE.v (je_var (ea := eR) (v := row_7) rfl))) (by simp only [ob1, ob2, ob3, ob4]))) (by simp only [ob1, ob2, ob3, ob4]))) (by simp only [ob1, ob2, ob3, ob4]))) (by simp only [ob1, ob2, ob3, ob4])) (JT.of (t' := (Option.bind (Option.bind (lenD row_7) fun x8 => (some (!decide (x8 = (2 : Int))))) fun x14 => (if x14 = true then some true else (Option.bind (Option.bind (ixD row_7 (.int (0 : Int))) fun x10 => (cmpD .NotIn x10 ((eL eT1) names_1))) fun x13 => (if x13 = true then some true else (Option.map (fun x => !x) (Option.bind (ixD row_7 (.int (1 : Int))) fun y12 => (f_is_number y12 (1 : Int) (60 : Int))))))))) (jt_or (JT.of (t' := (Option.bind (lenD row_7) fun x8 => (some (!decide (x8 = (2 : Int)))))) (jt_b (JE.of (t' := (Option.bind (lenD row_7) fun x8 => (some (!decide (x8 = (2 : Int)))))) (je_cmp (fun x y => some (!decide (x = y))) (fun x y z h => by rw [o_ne eq_I (by decide)]; exact h) (JE.v (JE.of (t' := (lenD row_7)) (je_blt (fun x => lenD x) o_lenR (JE.v (je_var (ea := eR) (v := row_7) rfl))) (by simp only [ob1, ob2, ob3, ob4]))) (JE.v (je_cst (ea := eI) (v := 2) rfl))) (by simp only [ob1, ob2, ob3, ob4]))) (by simp only [ob1, ob2, ob3, ob4])) (JT.of (t' := (Option.bind (Option.bind (ixD row_7 (.int (0 : Int))) fun x10 => (cmpD .NotIn x10 ((eL eT1) names_1))) fun x13 => (if x13 = true then some true else (Option.map (fun x => !x) (Option.bind (ixD row_7 (.int (1 : Int))) fun y12 => (f_is_number y12 (1 : Int) (60 : Int))))))) (jt_or (JT.of (t' := (Option.bind (ixD row_7 (.int (0 : Int))) fun x10 => (cmpD .NotIn x10 ((eL eT1) names_1)))) (jt_b (JE.of (t' := (Option.bind (ixD row_7 (.int (0 : Int))) fun x10 => (cmpD .NotIn x10 ((eL eT1) names_1)))) (je_cmp (fun x y => cmpD .NotIn x y) (fun _ _ _ h => h) (JE.v (JE.of (t' := (ixD row_7 (.int (0 : Int)))) (je_ix (eb := eI) (ec := eR) (fun x y => ixD x (.int y)) (fun _ _ _ h => h) (JE.v (je_var (ea := eR) (v := row_7) rfl)) (JE.v (je_cst (ea := eI) (v := 0) rfl))) (by simp only [ob1, ob2, ob3, ob4]))) (JE.v (JE.of (JE.enc (ea' := eR) (f := fun v => ((eL eT1) v)) (je_var (ea := (eL eT1)) (v := names_1) rfl) (fun _ => rfl)) rfl))) (by simp only [ob1, ob2, ob3, ob4]))) (by simp only [ob1, ob2, ob3, ob4])) (JT.of (t' := (Option.map (fun x => !x) (Option.bind (ixD row_7 (.int (1 : Int))) fun y12 => (f_is_number y12 (1 : Int) (60 : Int))))) (jt_or1 (JT.of (t' := (Option.map (fun x => !x) (Option.bind (ixD row_7 (.int (1 : Int))) fun y12 => (f_is_number y12 (1 : Int) (60 : Int))))) (jt_b (JE.of (t' := (Option.map (fun x => !x) (Option.bind (ixD row_7 (.int (1 : Int))) fun y12 => (f_is_number y12 (1 : Int) (60 : Int))))) (je_not (JT.of (t' := (Option.bind (ixD row_7 (.int (1 : Int))) fun y12 => (f_is_number y12 (1 : Int) (60 : Int)))) (jt_b (JE.of (t' := (Option.bind (ixD row_7 (.int (1 : Int))) fun y12 => (f_is_number y12 (1 : Int) (60 : Int)))) (je_call (ja_cons (JE.of (t' := (ixD row_7 (.int (1 : Int)))) (je_ix (eb := eI) (ec := eR) (fun x y => ixD x (.int y)) (fun _ _ _ h => h) (JE.v (je_var (ea := eR) (v := row_7) rfl)) (JE.v (je_cst (ea := eI) (v := 1) rfl))) (by simp only [ob1, ob2, ob3, ob4])) (ja_cons (je_cst (ea := eI) (v := 1) rfl) (ja_cons (je_cst (ea := eI) (v := 60) rfl) ja_nil))) (m_is_number _ (by omega)) hS) (by simp only [ob1, ob2, ob3, ob4]))) (by simp only [ob1, ob2, ob3, ob4]))) (by simp only [ob1, ob2, ob3, ob4]))) (by simp only [ob1, ob2, ob3, ob4]))) (by simp only [ob1, ob2, ob3, ob4]))) (by simp only [ob1, ob2, ob3, ob4]))) (by simp only [ob1, ob2, ob3, ob4]))) (by simp only [ob1, ob2, ob3, ob4])) (js_retX (JE.of (t' := (some false)) (je_cst (ea := eB) (v := false) rfl) rfl)) (js_endS (L := (fun st6 : Unit => (⟨S, [.no, .va (eR thing), .va ((eL eT1) names_1), .no, .no]⟩ : Ct))) () (.cons (.no _) (.cons (.eq _) (.cons (.eq _) (.cons (.no _) (.cons (.no _) .nil))))) rfl)) rfl)) (fun st6 => (js_ret (JE.of (t' := (f_is_rising thing)) (je_call (ja_cons (je_var (ea := eR) (v := thing) rfl) ja_nil) (m_is_rising _ (by omega)) hS) (by simp only [ob1, ob2, ob3, ob4]))))))))))) rfl
theorem m_are_delays (k : Nat) (hk : 3 ≤ k) : FnT (F k) 3 (fun v : (List (SO × SO × SO × Int × Int × Int)) × PyData × Unit => [(true, (eT (eP6 eT1 eT1 eT1 eI eI eI)) v.1), (true, eR v.2.1)]) (fun v => f_are_delays v.1 v.2.1) eB := match k, hk with
  | k + 1, hk => fn_of (g_are_delays k) fun S v hS => t_are_delays k (by omega) S hS v.1 v.2.1
def f_are_delays_vT (rides : (List (SO × SO × SO × Int × Int × Int))) (thing : (List (SO × Int))) : (Option Bool) :=
  (let names_1 : (List SO) := (List.map (fun (ride_2 : (SO × SO × SO × Int × Int × Int)) => ride_2.1) rides); (if ((!true) || (decide (((List.length thing : Nat) : Int) > (6 : Int)))) = true then (some false) else (ouK (forO (fun (row_4 : (SO × Int)) (st3 : Unit) => (if ((!true) || ((!decide ((2 : Int) = (2 : Int))) || ((!inB row_4.1 names_1) || (!(f_is_number_vI row_4.2 (1 : Int) (60 : Int)))))) = true then (some (.rt false)) else (some (.nx ())))) thing ()) id fun st3 => (f_is_rising_vT thing))))
theorem t_are_delays_vT (k : Nat) (hk : 2 ≤ k) (S : Sto) (hS : S.all Ob.flat = true) (rides : (List (SO × SO × SO × Int × Int × Int))) (thing : (List (SO × Int))) : JG (F k) gam (startC S [(true, (eT (eP6 eT1 eT1 eT1 eI eI eI)) rides), (true, (eT (eP2 eT1 eI)) thing)] 5) b_are_delays (semR eB fun _ => S) (f_are_delays_vT rides thing) :=
  JG.of (js_ctx (C' := (⟨S, [.va ((eT (eP6 eT1 eT1 eT1 eI eI eI)) rides), .va ((eT (eP2 eT1 eI)) thing), .no, .no, .no]⟩ : Ct)) rfl (js_asg (C' := fun names_1 => (⟨S, [.va ((eT (eP6 eT1 eT1 eT1 eI eI eI)) rides), .va ((eT (eP2 eT1 eI)) thing), .va ((eL eT1) names_1), .no, .no]⟩ : Ct)) (JE.of (t' := (some (List.map (fun (ride_2 : (SO × SO × SO × Int × Int × Int)) => ride_2.1) rides))) (je_mapT (C' := (fun ride_2 : (SO × SO × SO × Int × Int × Int) => (⟨S, [.va ((eT (eP6 eT1 eT1 eT1 eI eI eI)) rides), .va ((eT (eP2 eT1 eI)) thing), .no, .no, .va ((eP6 eT1 eT1 eT1 eI eI eI) ride_2)]⟩ : Ct))) (g := fun (ride_2 : (SO × SO × SO × Int × Int × Int)) => ride_2.1) (JI0.i (JI0.of (t' := (some rides)) (ji_seq0 (fun v => v) (fun _ => .inr rfl) (je_var (ea := (eT (eP6 eT1 eT1 eT1 eI eI eI))) (v := rides) rfl)) rfl)) (fun ride_2 => (jb_nm 4 _)) (fun ride_2 => (JE.of (je_at (ec := eT1) (fun v => v.1) (fun _ => rfl) (JE.v (je_var (ea := (eP6 eT1 eT1 eT1 eI eI eI)) (v := ride_2) rfl)) (JE.of (je_cst (ea := eI) (v := 0) rfl) rfl)) rfl))) rfl) (fun _ => jb_nm 2 _) (fun names_1 => (js_wk (c' := [.no, .va ((eT (eP2 eT1 eI)) thing), .va ((eL eT1) names_1), .no, .no]) (.cons (.no _) (.cons (.eq _) (.cons (.eq _) (.cons (.no _) (.cons (.no _) .nil))))) (js_ctx (C' := (⟨S, [.no, .va ((eT (eP2 eT1 eI)) thing), .va ((eL eT1) names_1), .no, .no]⟩ : Ct)) rfl (js_ifx (JT.of (t' := (some ((!true) || (decide (((List.length thing : Nat) : Int) > (6 : Int)))))) (jt_orT (JT.of (jt_b (JE.of (je_not (JT.of (jt_b (JE.of (je_isi (fun _ => true) (fun _ => ⟨rfl, rfl⟩) (JE.v (je_var (ea := (eT (eP2 eT1 eI))) (v := thing) rfl))) rfl)) rfl)) rfl)) rfl) (JT.of (jt_or1 (JT.of (jt_b (JE.of (je_cmp (fun x y => some (decide (x > y))) (fun x y z h => by rw [o_gtI]; exact h) (JE.v (JE.of (je_blt (fun x => some ((List.length x : Nat) : Int)) o_lenT (JE.v (je_var (ea := (eT (eP2 eT1 eI))) (v := thing) rfl))) rfl)) (JE.v (je_cst (ea := eI) (v := 6) rfl))) rfl)) rfl)) rfl)) rfl) (js_retXR (JE.of (t' := (some false)) (je_cst (ea := eB) (v := false) rfl) rfl)) (js_forO (L := (fun st3 : Unit => (⟨S, [.no, .va ((eT (eP2 eT1 eI)) thing), .va ((eL eT1) names_1), .no, .no]⟩ : Ct))) (C' := (fun (row_4 : (SO × Int)) (st3 : Unit) => (⟨S, [.no, .va ((eT (eP2 eT1 eI)) thing), .va ((eL eT1) names_1), .va ((eP2 eT1 eI) row_4), .no]⟩ : Ct))) (s0 := ()) (mk := id) (f := (fun (row_4 : (SO × Int)) (st3 : Unit) => (if ((!true) || ((!decide ((2 : Int) = (2 : Int))) || ((!inB row_4.1 names_1) || (!(f_is_number_vI row_4.2 (1 : Int) (60 : Int)))))) = true then (some (.rt false)) else (some (.nx ()))))) mk_R (JI0.of (t' := (some thing)) (ji_seq0 (fun v => v) (fun _ => .inr rfl) (je_var (ea := (eT (eP2 eT1 eI))) (v := thing) rfl)) rfl) (.cons (.no _) (.cons (.eq _) (.cons (.eq _) (.cons (.no _) (.cons (.no _) .nil))))) rfl (fun _ => rfl) (fun row_4 st3 => (jb_nm 3 _)) (fun row_4 st3 => (JG.of (js_ifx (JT.of (t' := (some ((!true) || ((!decide ((2 : Int) = (2 : Int))) || ((!inB row_4.1 names_1) || (!(f_is_number_vI row_4.2 (1 : Int) (60 : Int)))))))) (jt_orT (JT.of (jt_b (JE.of (je_not (JT.of (jt_b (JE.of (je_isi (fun _ => true) (fun _ => ⟨rfl, rfl⟩) (JE.v (je_var (ea := (eP2 eT1 eI)) (v := row_4) rfl))) rfl)) rfl)) rfl)) rfl) (JT.of (jt_orT (JT.of (jt_b (JE.of (je_cmp (fun x y => some (!decide (x = y))) (fun x y z h => by rw [o_ne eq_I (by decide)]; exact h) (JE.v (JE.of (je_blt (fun x => some (2 : Int)) (fun _ _ h => by cases h; rfl) (JE.v (je_var (ea := (eP2 eT1 eI)) (v := row_4) rfl))) rfl)) (JE.v (je_cst (ea := eI) (v := 2) rfl))) rfl)) rfl) (JT.of (jt_orT (JT.of (jt_b (JE.of (je_cmp (fun x y => some (!inB x y)) (fun x y z h => by rw [o_ninG (c := (eL eT1)) eq_S (by decide) (fun v => v) (fun _ => .inl rfl)]; exact h) (JE.v (JE.of (je_at (ec := eT1) (fun v => v.1) (fun _ => rfl) (JE.v (je_var (ea := (eP2 eT1 eI)) (v := row_4) rfl)) (JE.of (je_cst (ea := eI) (v := 0) rfl) rfl)) rfl)) (JE.v (je_var (ea := (eL eT1)) (v := names_1) rfl))) rfl)) rfl) (JT.of (jt_or1 (JT.of (jt_b (JE.of (je_not (JT.of (jt_b (JE.of (je_call (ja_cons (JE.of (je_at (ec := eI) (fun v => v.2) (fun _ => rfl) (JE.v (je_var (ea := (eP2 eT1 eI)) (v := row_4) rfl)) (JE.of (je_cst (ea := eI) (v := 1) rfl) rfl)) rfl) (ja_cons (je_cst (ea := eI) (v := 1) rfl) (ja_cons (je_cst (ea := eI) (v := 60) rfl) ja_nil))) (m_is_number_vI _ (by omega)) hS) rfl)) rfl)) rfl)) rfl)) rfl)) rfl)) rfl)) rfl) (js_retX (JE.of (t' := (some false)) (je_cst (ea := eB) (v := false) rfl) rfl)) (js_endS (L := (fun st3 : Unit => (⟨S, [.no, .va ((eT (eP2 eT1 eI)) thing), .va ((eL eT1) names_1), .no, .no]⟩ : Ct))) () (.cons (.no _) (.cons (.eq _) (.cons (.eq _) (.cons (.no _) (.cons (.no _) .nil))))) rfl)) rfl)) (fun st3 => (js_ret (JE.of (t' := (f_is_rising_vT thing)) (je_call (ja_cons (je_var (ea := (eT (eP2 eT1 eI))) (v := thing) rfl) ja_nil) (m_is_rising_vT _ (by omega)) hS) (by simp only [ob1, ob2, ob3, ob4]))))))))))) rfl
theorem m_are_delays_vT (k : Nat) (hk : 3 ≤ k) : FnT (F k) 3 (fun v : (List (SO × SO × SO × Int × Int × Int)) × (List (SO × Int)) × Unit => [(true, (eT (eP6 eT1 eT1 eT1 eI eI eI)) v.1), (true, (eT (eP2 eT1 eI)) v.2.1)]) (fun v => f_are_delays_vT v.1 v.2.1) eB := match k, hk with
  | k + 1, hk => fn_of (g_are_delays k) fun S v hS => t_are_delays_vT k (by omega) S hS v.1 v.2.1
def f_is_met (ride : (SO × SO × SO × Int × Int × Int)) (other : (SO × SO × SO × Int × Int × Int)) (change : Int) : Bool :=
  ((decide (other.2.2.1 = ride.2.1)) && ((decide (change ≤ (ride.2.2.2.1 - other.2.2.2.2.1))) && (decide ((ride.2.2.2.1 - other.2.2.2.2.1) ≤ (30 : Int)))))
theorem t_is_met (k : Nat) (hk : 0 ≤ k) (S : Sto) (hS : S.all Ob.flat = true) (ride : (SO × SO × SO × Int × Int × Int)) (other : (SO × SO × SO × Int × Int × Int)) (change : Int) : JG (F k) gam (startC S [(true, (eP6 eT1 eT1 eT1 eI eI eI) ride), (true, (eP6 eT1 eT1 eT1 eI eI eI) other), (true, eI change)] 3) b_is_met (semR eB fun _ => S) (some (f_is_met ride other change)) :=
  JG.of (js_ctx (C' := (⟨S, [.va ((eP6 eT1 eT1 eT1 eI eI eI) ride), .va ((eP6 eT1 eT1 eT1 eI eI eI) other), .va (eI change)]⟩ : Ct)) rfl (js_ret (JE.of (t' := (some ((decide (other.2.2.1 = ride.2.1)) && ((decide (change ≤ (ride.2.2.2.1 - other.2.2.2.2.1))) && (decide ((ride.2.2.2.1 - other.2.2.2.2.1) ≤ (30 : Int))))))) (je_andT (JE.of (je_cmp (fun x y => some (decide (x = y))) (fun x y z h => by rw [o_eq eq_S (by decide)]; exact h) (JE.v (JE.of (je_at (ec := eT1) (fun v => v.2.2.1) (fun _ => rfl) (JE.v (je_var (ea := (eP6 eT1 eT1 eT1 eI eI eI)) (v := other) rfl)) (JE.of (je_cst (ea := eI) (v := 2) rfl) rfl)) rfl)) (JE.v (JE.of (je_at (ec := eT1) (fun v => v.2.1) (fun _ => rfl) (JE.v (je_var (ea := (eP6 eT1 eT1 eT1 eI eI eI)) (v := ride) rfl)) (JE.of (je_cst (ea := eI) (v := 1) rfl) rfl)) rfl))) rfl) (JE.of (je_and1 (JE.of (je_chnT (fun x y => (decide (x ≤ y))) (fun x y => (decide (x ≤ y))) (fun x y => by rw [o_leI]) (fun x y => by rw [o_leI]) (JE.v (je_var (ea := eI) (v := change) rfl)) (JE.v (JE.of (je_bin (ea := eI) (eb := eI) (ec := eI) (fun x y => some (x - y)) o_sub (JE.v (JE.of (je_at (ec := eI) (fun v => v.2.2.2.1) (fun _ => rfl) (JE.v (je_var (ea := (eP6 eT1 eT1 eT1 eI eI eI)) (v := ride) rfl)) (JE.of (je_cst (ea := eI) (v := 3) rfl) rfl)) rfl)) (JE.v (JE.of (je_at (ec := eI) (fun v => v.2.2.2.2.1) (fun _ => rfl) (JE.v (je_var (ea := (eP6 eT1 eT1 eT1 eI eI eI)) (v := other) rfl)) (JE.of (je_cst (ea := eI) (v := 4) rfl) rfl)) rfl))) rfl)) (JE.v (JE.of (je_glb (ea := eI) (v := (30 : Int)) rfl) rfl))) rfl)) rfl)) rfl))) rfl
theorem m_is_met (k : Nat) (hk : 1 ≤ k) : FnT (F k) 4 (fun v : (SO × SO × SO × Int × Int × Int) × (SO × SO × SO × Int × Int × Int) × Int × Unit => [(true, (eP6 eT1 eT1 eT1 eI eI eI) v.1), (true, (eP6 eT1 eT1 eT1 eI eI eI) v.2.1), (true, eI v.2.2.1)]) (fun v => some (f_is_met v.1 v.2.1 v.2.2.1)) eB := match k, hk with
  | k + 1, hk => fn_of (g_is_met k) fun S v hS => t_is_met k (by omega) S hS v.1 v.2.1 v.2.2.1
def f_met_by (rides : (List (SO × SO × SO × Int × Int × Int))) (change : Int) (ride : SO) : (Option (List SO)) :=
  (Option.bind (atI (List.map (fun (one_2 : (SO × SO × SO × Int × Int × Int)) => one_2) (List.filter (fun (one_2 : (SO × SO × SO × Int × Int × Int)) => (decide (one_2.1 = ride))) rides)) (0 : Int)) fun row_1 => (some (List.map (fun (other_3 : (SO × SO × SO × Int × Int × Int)) => other_3.1) (List.filter (fun (other_3 : (SO × SO × SO × Int × Int × Int)) => ((!decide (other_3 = row_1)) && (f_is_met row_1 other_3 change))) rides))))
theorem t_met_by (k : Nat) (hk : 1 ≤ k) (S : Sto) (hS : S.all Ob.flat = true) (rides : (List (SO × SO × SO × Int × Int × Int))) (change : Int) (ride : SO) : JG (F k) gam (startC S [(true, (eT (eP6 eT1 eT1 eT1 eI eI eI)) rides), (true, eI change), (true, eT1 ride)] 6) b_met_by (semR (eL eT1) fun _ => S) (f_met_by rides change ride) :=
  JG.of (js_ctx (C' := (⟨S, [.va ((eT (eP6 eT1 eT1 eT1 eI eI eI)) rides), .va (eI change), .va (eT1 ride), .no, .no, .no]⟩ : Ct)) rfl (js_asg (C' := fun row_1 => (⟨S, [.va ((eT (eP6 eT1 eT1 eT1 eI eI eI)) rides), .va (eI change), .va (eT1 ride), .va ((eP6 eT1 eT1 eT1 eI eI eI) row_1), .no, .no]⟩ : Ct)) (JE.of (t' := (atI (List.map (fun (one_2 : (SO × SO × SO × Int × Int × Int)) => one_2) (List.filter (fun (one_2 : (SO × SO × SO × Int × Int × Int)) => (decide (one_2.1 = ride))) rides)) (0 : Int))) (je_ix (fun x y => atI x y) o_ixL (JE.v (JE.of (je_filT (C' := (fun one_2 : (SO × SO × SO × Int × Int × Int) => (⟨S, [.va ((eT (eP6 eT1 eT1 eT1 eI eI eI)) rides), .va (eI change), .va (eT1 ride), .no, .no, .va ((eP6 eT1 eT1 eT1 eI eI eI) one_2)]⟩ : Ct))) (p := fun (one_2 : (SO × SO × SO × Int × Int × Int)) => (decide (one_2.1 = ride))) (g := fun (one_2 : (SO × SO × SO × Int × Int × Int)) => one_2) (JI0.i (JI0.of (t' := (some rides)) (ji_seq0 (fun v => v) (fun _ => .inr rfl) (je_var (ea := (eT (eP6 eT1 eT1 eT1 eI eI eI))) (v := rides) rfl)) rfl)) (fun one_2 => (jb_nm 5 _)) (fun one_2 => (JT.of (jt_b (JE.of (je_cmp (fun x y => some (decide (x = y))) (fun x y z h => by rw [o_eq eq_S (by decide)]; exact h) (JE.v (JE.of (je_at (ec := eT1) (fun v => v.1) (fun _ => rfl) (JE.v (je_var (ea := (eP6 eT1 eT1 eT1 eI eI eI)) (v := one_2) rfl)) (JE.of (je_cst (ea := eI) (v := 0) rfl) rfl)) rfl)) (JE.v (je_var (ea := eT1) (v := ride) rfl))) rfl)) rfl)) (fun one_2 => (je_var (ea := (eP6 eT1 eT1 eT1 eI eI eI)) (v := one_2) rfl))) rfl)) (JE.v (je_cst (ea := eI) (v := 0) rfl))) (by simp only [ob1, ob2, ob3, ob4])) (fun _ => jb_nm 3 _) (fun row_1 => (js_wk (c' := [.va ((eT (eP6 eT1 eT1 eT1 eI eI eI)) rides), .va (eI change), .no, .va ((eP6 eT1 eT1 eT1 eI eI eI) row_1), .no, .no]) (.cons (.eq _) (.cons (.eq _) (.cons (.no _) (.cons (.eq _) (.cons (.no _) (.cons (.no _) .nil)))))) (js_ctx (C' := (⟨S, [.va ((eT (eP6 eT1 eT1 eT1 eI eI eI)) rides), .va (eI change), .no, .va ((eP6 eT1 eT1 eT1 eI eI eI) row_1), .no, .no]⟩ : Ct)) rfl (js_ret (JE.of (t' := (some (List.map (fun (other_3 : (SO × SO × SO × Int × Int × Int)) => other_3.1) (List.filter (fun (other_3 : (SO × SO × SO × Int × Int × Int)) => ((!decide (other_3 = row_1)) && (f_is_met row_1 other_3 change))) rides)))) (je_filT (C' := (fun other_3 : (SO × SO × SO × Int × Int × Int) => (⟨S, [.va ((eT (eP6 eT1 eT1 eT1 eI eI eI)) rides), .va (eI change), .no, .va ((eP6 eT1 eT1 eT1 eI eI eI) row_1), .va ((eP6 eT1 eT1 eT1 eI eI eI) other_3), .no]⟩ : Ct))) (p := fun (other_3 : (SO × SO × SO × Int × Int × Int)) => ((!decide (other_3 = row_1)) && (f_is_met row_1 other_3 change))) (g := fun (other_3 : (SO × SO × SO × Int × Int × Int)) => other_3.1) (JI0.i (JI0.of (t' := (some rides)) (ji_seq0 (fun v => v) (fun _ => .inr rfl) (je_var (ea := (eT (eP6 eT1 eT1 eT1 eI eI eI))) (v := rides) rfl)) rfl)) (fun other_3 => (jb_nm 4 _)) (fun other_3 => (JT.of (jt_andT (JT.of (jt_b (JE.of (je_cmp (fun x y => some (!decide (x = y))) (fun x y z h => by rw [o_ne (eq_P6 eq_S eq_S eq_S eq_I eq_I eq_I) (by decide)]; exact h) (JE.v (je_var (ea := (eP6 eT1 eT1 eT1 eI eI eI)) (v := other_3) rfl)) (JE.v (je_var (ea := (eP6 eT1 eT1 eT1 eI eI eI)) (v := row_1) rfl))) rfl)) rfl) (JT.of (jt_and1 (JT.of (jt_b (JE.of (je_call (ja_cons (je_var (ea := (eP6 eT1 eT1 eT1 eI eI eI)) (v := row_1) rfl) (ja_cons (je_var (ea := (eP6 eT1 eT1 eT1 eI eI eI)) (v := other_3) rfl) (ja_cons (je_var (ea := eI) (v := change) rfl) ja_nil))) (m_is_met _ (by omega)) hS) rfl)) rfl)) rfl)) rfl)) (fun other_3 => (JE.of (je_at (ec := eT1) (fun v => v.1) (fun _ => rfl) (JE.v (je_var (ea := (eP6 eT1 eT1 eT1 eI eI eI)) (v := other_3) rfl)) (JE.of (je_cst (ea := eI) (v := 0) rfl) rfl)) rfl))) rfl))))))) rfl
theorem m_met_by (k : Nat) (hk : 2 ≤ k) : FnT (F k) 5 (fun v : (List (SO × SO × SO × Int × Int × Int)) × Int × SO × Unit => [(true, (eT (eP6 eT1 eT1 eT1 eI eI eI)) v.1), (true, eI v.2.1), (true, eT1 v.2.2.1)]) (fun v => f_met_by v.1 v.2.1 v.2.2.1) (eL eT1) := match k, hk with
  | k + 1, hk => fn_of (g_met_by k) fun S v hS => t_met_by k (by omega) S hS v.1 v.2.1 v.2.2.1
def f_run (rides : (List (SO × SO × SO × Int × Int × Int))) (change : Int) (delays : (List (SO × Int))) (patience : Int) : (Option (List (SO × (Int × Int)))) :=
  (let late_1 : (List (SO × Int)) := (mkM delays); (let found_2 : (List (SO × (Int × Int))) := ([] : List (SO × (Int × Int))); (Option.bind (forN (fun (x19 : (Int × SO)) (st18 : (List (SO × (Int × Int)))) => (Option.bind (atI (List.map (fun (one_21 : (SO × SO × SO × Int × Int × Int)) => one_21) (List.filter (fun (one_21 : (SO × SO × SO × Int × Int × Int)) => (decide (one_21.1 = x19.2))) rides)) (0 : Int)) fun ride_20 => (let true__22 : Int := (x19.1 + (Option.getD (getM late_1 x19.2) (0 : Int))); (Option.bind (Option.map (fun (v : (List SO)) => v) (f_met_by rides change x19.2)) fun xs40 => (Option.bind (forN (fun (other_31 : SO) (st30 : Int) => (Option.bind (Option.bind (Option.map (fun (v : (Int × Int)) => v.2) (getM st18 other_31)) fun x36 => (some (x36 + change))) fun least_35 => (some (if (decide (least_35 ≤ (x19.1 + patience))) = true then (let true__38 : Int := (if least_35 > st30 then least_35 else st30); true__38) else st30)))) xs40 true__22) fun st30 => (Option.bind (putO st18 x19.2 (st30, ((ride_20.2.2.2.2.1 + st30) - x19.1))) fun found_32 => (some found_32))))))) (srt (ltP2 ltI ltS) (List.map (fun (ride_17 : (SO × SO × SO × Int × Int × Int)) => (ride_17.2.2.2.1, ride_17.1)) rides)) found_2) fun st18 => (some st18))))
theorem t_run (k : Nat) (hk : 2 ≤ k) (S : Sto) (hS : S.all Ob.flat = true) (rides : (List (SO × SO × SO × Int × Int × Int))) (change : Int) (delays : (List (SO × Int))) (patience : Int) : JG (F k) gam (startC S [(true, (eT (eP6 eT1 eT1 eT1 eI eI eI)) rides), (true, eI change), (true, (eT (eP2 eT1 eI)) delays), (true, eI patience)] 13) b_run (semR (eM eT1 (eP2 eI eI)) fun _ => S) (f_run rides change delays patience) :=
  JG.of (js_ctx (C' := (⟨S, [.va ((eT (eP6 eT1 eT1 eT1 eI eI eI)) rides), .va (eI change), .va ((eT (eP2 eT1 eI)) delays), .va (eI patience), .no, .no, .no, .no, .no, .no, .no, .no, .no]⟩ : Ct)) rfl (js_asg (C' := fun late_1 => (⟨S, [.va ((eT (eP6 eT1 eT1 eT1 eI eI eI)) rides), .va (eI change), .va ((eT (eP2 eT1 eI)) delays), .va (eI patience), .va ((eM eT1 eI) late_1), .no, .no, .no, .no, .no, .no, .no, .no]⟩ : Ct)) (JE.of (t' := (some (mkM delays))) (je_blt (fun x => some (mkM x)) (o_dictT key_S) (JE.v (je_var (ea := (eT (eP2 eT1 eI))) (v := delays) rfl))) rfl) (fun _ => jb_nm 4 _) (fun late_1 => (js_wk (c' := [.va ((eT (eP6 eT1 eT1 eT1 eI eI eI)) rides), .va (eI change), .no, .va (eI patience), .va ((eM eT1 eI) late_1), .no, .no, .no, .no, .no, .no, .no, .no]) (.cons (.eq _) (.cons (.eq _) (.cons (.no _) (.cons (.eq _) (.cons (.eq _) (.cons (.no _) (.cons (.no _) (.cons (.no _) (.cons (.no _) (.cons (.no _) (.cons (.no _) (.cons (.no _) (.cons (.no _) .nil))))))))))))) (js_ctx (C' := (⟨S, [.va ((eT (eP6 eT1 eT1 eT1 eI eI eI)) rides), .va (eI change), .no, .va (eI patience), .va ((eM eT1 eI) late_1), .no, .no, .no, .no, .no, .no, .no, .no]⟩ : Ct)) rfl (js_newM (JE.of (t' := (some ([] : List (SO × (Int × Int))))) (je_dnew (ek := eT1) (ev' := (eP2 eI eI))) rfl) (fun found_2 => (js_ctx (C' := (⟨S, [.va ((eT (eP6 eT1 eT1 eT1 eI eI eI)) rides), .va (eI change), .no, .va (eI patience), .va ((eM eT1 eI) late_1), .ow (.dic (List.map (kvE eT1 (eP2 eI eI)) found_2) false false), .no, .no, .no, .no, .no, .no, .no]⟩ : Ct)) rfl (js_forN (L := (fun st18 : (List (SO × (Int × Int))) => (⟨S, [.va ((eT (eP6 eT1 eT1 eT1 eI eI eI)) rides), .va (eI change), .no, .va (eI patience), .va ((eM eT1 eI) late_1), .ow (.dic (List.map (kvE eT1 (eP2 eI eI)) st18) false false), .no, .no, .no, .no, .no, .no, .no]⟩ : Ct))) (C' := (fun (x19 : (Int × SO)) (st18 : (List (SO × (Int × Int)))) => (⟨S, [.va ((eT (eP6 eT1 eT1 eT1 eI eI eI)) rides), .va (eI change), .no, .va (eI patience), .va ((eM eT1 eI) late_1), .ow (.dic (List.map (kvE eT1 (eP2 eI eI)) st18) false false), .va (eI x19.1), .va (eT1 x19.2), .no, .no, .no, .no, .no]⟩ : Ct))) (s0 := found_2) (f := (fun (x19 : (Int × SO)) (st18 : (List (SO × (Int × Int)))) => (Option.bind (atI (List.map (fun (one_21 : (SO × SO × SO × Int × Int × Int)) => one_21) (List.filter (fun (one_21 : (SO × SO × SO × Int × Int × Int)) => (decide (one_21.1 = x19.2))) rides)) (0 : Int)) fun ride_20 => (let true__22 : Int := (x19.1 + (Option.getD (getM late_1 x19.2) (0 : Int))); (Option.bind (Option.map (fun (v : (List SO)) => v) (f_met_by rides change x19.2)) fun xs40 => (Option.bind (forN (fun (other_31 : SO) (st30 : Int) => (Option.bind (Option.bind (Option.map (fun (v : (Int × Int)) => v.2) (getM st18 other_31)) fun x36 => (some (x36 + change))) fun least_35 => (some (if (decide (least_35 ≤ (x19.1 + patience))) = true then (let true__38 : Int := (if least_35 > st30 then least_35 else st30); true__38) else st30)))) xs40 true__22) fun st30 => (Option.bind (putO st18 x19.2 (st30, ((ride_20.2.2.2.2.1 + st30) - x19.1))) fun found_32 => (some found_32)))))))) (JI0.of (t' := (some (srt (ltP2 ltI ltS) (List.map (fun (ride_17 : (SO × SO × SO × Int × Int × Int)) => (ride_17.2.2.2.1, ride_17.1)) rides)))) (ji_seq0 (fun v => v) (fun _ => .inl rfl) (JE.of (je_blt (fun x => some (srt (ltP2 ltI ltS) x)) (o_sort (lt_P2 lt_I eq_I lt_S eq_S) (by decide) (.inl fun _ => rfl)) (JE.v (JE.of (je_mapT (C' := (fun ride_17 : (SO × SO × SO × Int × Int × Int) => (⟨S, [.va ((eT (eP6 eT1 eT1 eT1 eI eI eI)) rides), .va (eI change), .no, .va (eI patience), .va ((eM eT1 eI) late_1), .ow (.dic (List.map (kvE eT1 (eP2 eI eI)) found_2) false false), .no, .no, .va ((eP6 eT1 eT1 eT1 eI eI eI) ride_17), .no, .no, .no, .no]⟩ : Ct))) (g := fun (ride_17 : (SO × SO × SO × Int × Int × Int)) => (ride_17.2.2.2.1, ride_17.1)) (JI0.i (JI0.of (t' := (some rides)) (ji_seq0 (fun v => v) (fun _ => .inr rfl) (je_var (ea := (eT (eP6 eT1 eT1 eT1 eI eI eI))) (v := rides) rfl)) rfl)) (fun ride_17 => (jb_nm 8 _)) (fun ride_17 => (JE.of (je_tup (ec := (eP2 eI eT1)) (ja_cons (JE.of (je_at (ec := eI) (fun v => v.2.2.2.1) (fun _ => rfl) (JE.v (je_var (ea := (eP6 eT1 eT1 eT1 eI eI eI)) (v := ride_17) rfl)) (JE.of (je_cst (ea := eI) (v := 3) rfl) rfl)) rfl) (ja_cons (JE.of (je_at (ec := eT1) (fun v => v.1) (fun _ => rfl) (JE.v (je_var (ea := (eP6 eT1 eT1 eT1 eI eI eI)) (v := ride_17) rfl)) (JE.of (je_cst (ea := eI) (v := 0) rfl) rfl)) rfl) ja_nil)) (fun v => (v.1, v.2.1)) (fun _ => ⟨rfl, rfl⟩)) rfl))) rfl))) rfl)) rfl) (.cons (.eq _) (.cons (.eq _) (.cons (.no _) (.cons (.eq _) (.cons (.eq _) (.cons (.eq _) (.cons (.no _) (.cons (.no _) (.cons (.no _) (.cons (.no _) (.cons (.no _) (.cons (.no _) (.cons (.no _) .nil))))))))))))) rfl (fun _ => rfl) (fun x19 st18 => (jb_tp [eI x19.1, eT1 x19.2] rfl rfl (jbs_cons (jb_nm 6 _) (jbs_cons (jb_nm 7 _) jbs_nil)))) (fun x19 st18 => (JG.of (js_asg (C' := fun ride_20 => (⟨S, [.va ((eT (eP6 eT1 eT1 eT1 eI eI eI)) rides), .va (eI change), .no, .va (eI patience), .va ((eM eT1 eI) late_1), .ow (.dic (List.map (kvE eT1 (eP2 eI eI)) st18) false false), .va (eI x19.1), .va (eT1 x19.2), .va ((eP6 eT1 eT1 eT1 eI eI eI) ride_20), .no, .no, .no, .no]⟩ : Ct)) (JE.of (t' := (atI (List.map (fun (one_21 : (SO × SO × SO × Int × Int × Int)) => one_21) (List.filter (fun (one_21 : (SO × SO × SO × Int × Int × Int)) => (decide (one_21.1 = x19.2))) rides)) (0 : Int))) (je_ix (fun x y => atI x y) o_ixL (JE.v (JE.of (je_filT (C' := (fun one_21 : (SO × SO × SO × Int × Int × Int) => (⟨S, [.va ((eT (eP6 eT1 eT1 eT1 eI eI eI)) rides), .va (eI change), .no, .va (eI patience), .va ((eM eT1 eI) late_1), .ow (.dic (List.map (kvE eT1 (eP2 eI eI)) st18) false false), .va (eI x19.1), .va (eT1 x19.2), .no, .no, .no, .no, .va ((eP6 eT1 eT1 eT1 eI eI eI) one_21)]⟩ : Ct))) (p := fun (one_21 : (SO × SO × SO × Int × Int × Int)) => (decide (one_21.1 = x19.2))) (g := fun (one_21 : (SO × SO × SO × Int × Int × Int)) => one_21) (JI0.i (JI0.of (t' := (some rides)) (ji_seq0 (fun v => v) (fun _ => .inr rfl) (je_var (ea := (eT (eP6 eT1 eT1 eT1 eI eI eI))) (v := rides) rfl)) rfl)) (fun one_21 => (jb_nm 12 _)) (fun one_21 => (JT.of (jt_b (JE.of (je_cmp (fun x y => some (decide (x = y))) (fun x y z h => by rw [o_eq eq_S (by decide)]; exact h) (JE.v (JE.of (je_at (ec := eT1) (fun v => v.1) (fun _ => rfl) (JE.v (je_var (ea := (eP6 eT1 eT1 eT1 eI eI eI)) (v := one_21) rfl)) (JE.of (je_cst (ea := eI) (v := 0) rfl) rfl)) rfl)) (JE.v (je_var (ea := eT1) (v := x19.2) rfl))) rfl)) rfl)) (fun one_21 => (je_var (ea := (eP6 eT1 eT1 eT1 eI eI eI)) (v := one_21) rfl))) rfl)) (JE.v (je_cst (ea := eI) (v := 0) rfl))) (by simp only [ob1, ob2, ob3, ob4])) (fun _ => jb_nm 8 _) (fun ride_20 => (js_asg (C' := fun true__22 => (⟨S, [.va ((eT (eP6 eT1 eT1 eT1 eI eI eI)) rides), .va (eI change), .no, .va (eI patience), .va ((eM eT1 eI) late_1), .ow (.dic (List.map (kvE eT1 (eP2 eI eI)) st18) false false), .va (eI x19.1), .va (eT1 x19.2), .va ((eP6 eT1 eT1 eT1 eI eI eI) ride_20), .va (eI true__22), .no, .no, .no]⟩ : Ct)) (JE.of (t' := (some (x19.1 + (Option.getD (getM late_1 x19.2) (0 : Int))))) (je_bin (ea := eI) (eb := eI) (ec := eI) (fun x y => some (x + y)) o_add (JE.v (je_var (ea := eI) (v := x19.1) rfl)) (JE.v (JE.of (je_dgetd key_S (JE.v (je_var (ea := (eM eT1 eI)) (v := late_1) rfl)) (je_var (ea := eT1) (v := x19.2) rfl) (je_cst (ea := eI) (v := 0) rfl)) rfl))) rfl) (fun _ => jb_nm 9 _) (fun true__22 => (js_forN (L := (fun st30 : Int => (⟨S, [.va ((eT (eP6 eT1 eT1 eT1 eI eI eI)) rides), .va (eI change), .no, .va (eI patience), .va ((eM eT1 eI) late_1), .ow (.dic (List.map (kvE eT1 (eP2 eI eI)) st18) false false), .va (eI x19.1), .va (eT1 x19.2), .va ((eP6 eT1 eT1 eT1 eI eI eI) ride_20), .va (eI st30), .no, .no, .no]⟩ : Ct))) (C' := (fun (other_31 : SO) (st30 : Int) => (⟨S, [.va ((eT (eP6 eT1 eT1 eT1 eI eI eI)) rides), .va (eI change), .no, .va (eI patience), .va ((eM eT1 eI) late_1), .ow (.dic (List.map (kvE eT1 (eP2 eI eI)) st18) false false), .va (eI x19.1), .va (eT1 x19.2), .va ((eP6 eT1 eT1 eT1 eI eI eI) ride_20), .va (eI st30), .va (eT1 other_31), .no, .no]⟩ : Ct))) (s0 := true__22) (f := (fun (other_31 : SO) (st30 : Int) => (Option.bind (Option.bind (Option.map (fun (v : (Int × Int)) => v.2) (getM st18 other_31)) fun x36 => (some (x36 + change))) fun least_35 => (some (if (decide (least_35 ≤ (x19.1 + patience))) = true then (let true__38 : Int := (if least_35 > st30 then least_35 else st30); true__38) else st30))))) (JI0.of (t' := (Option.map (fun (v : (List SO)) => v) (f_met_by rides change x19.2))) (ji_seq0 (fun v => v) (fun _ => .inl rfl) (JE.of (t' := (f_met_by rides change x19.2)) (je_call (ja_cons (je_var (ea := (eT (eP6 eT1 eT1 eT1 eI eI eI))) (v := rides) rfl) (ja_cons (je_var (ea := eI) (v := change) rfl) (ja_cons (je_var (ea := eT1) (v := x19.2) rfl) ja_nil))) (m_met_by _ (by omega)) hS) (by simp only [ob1, ob2, ob3, ob4]))) (by simp only [ob1, ob2, ob3, ob4])) (.cons (.eq _) (.cons (.eq _) (.cons (.no _) (.cons (.eq _) (.cons (.eq _) (.cons (.eq _) (.cons (.eq _) (.cons (.eq _) (.cons (.eq _) (.cons (.eq _) (.cons (.no _) (.cons (.no _) (.cons (.no _) .nil))))))))))))) rfl (fun _ => rfl) (fun other_31 st30 => (jb_nm 10 _)) (fun other_31 st30 => (JG.of (js_asg (C' := fun least_35 => (⟨S, [.va ((eT (eP6 eT1 eT1 eT1 eI eI eI)) rides), .va (eI change), .no, .va (eI patience), .va ((eM eT1 eI) late_1), .ow (.dic (List.map (kvE eT1 (eP2 eI eI)) st18) false false), .va (eI x19.1), .va (eT1 x19.2), .va ((eP6 eT1 eT1 eT1 eI eI eI) ride_20), .va (eI st30), .va (eT1 other_31), .va (eI least_35), .no]⟩ : Ct)) (JE.of (t' := (Option.bind (Option.map (fun (v : (Int × Int)) => v.2) (getM st18 other_31)) fun x36 => (some (x36 + change)))) (je_bin (ea := eI) (eb := eI) (ec := eI) (fun x y => some (x + y)) o_add (JE.v (JE.of (t' := (Option.map (fun (v : (Int × Int)) => v.2) (getM st18 other_31))) (je_at (ec := eI) (fun v => v.2) (fun _ => rfl) (JE.v (JE.of (t' := (getM st18 other_31)) (je_ix (fun x y => getM x y) (o_get key_S) (jv_ow (ea := (eM eT1 (eP2 eI eI))) (v := st18) rfl rfl) (JE.v (je_var (ea := eT1) (v := other_31) rfl))) (by simp only [ob1, ob2, ob3, ob4]))) (JE.of (je_cst (ea := eI) (v := 1) rfl) rfl)) (by simp only [ob1, ob2, ob3, ob4]))) (JE.v (je_var (ea := eI) (v := change) rfl))) (by simp only [ob1, ob2, ob3, ob4])) (fun _ => jb_nm 11 _) (fun least_35 => (js_wk (c' := [.va ((eT (eP6 eT1 eT1 eT1 eI eI eI)) rides), .va (eI change), .no, .va (eI patience), .va ((eM eT1 eI) late_1), .ow (.dic (List.map (kvE eT1 (eP2 eI eI)) st18) false false), .va (eI x19.1), .va (eT1 x19.2), .va ((eP6 eT1 eT1 eT1 eI eI eI) ride_20), .va (eI st30), .no, .va (eI least_35), .no]) (.cons (.eq _) (.cons (.eq _) (.cons (.no _) (.cons (.eq _) (.cons (.eq _) (.cons (.eq _) (.cons (.eq _) (.cons (.eq _) (.cons (.eq _) (.cons (.eq _) (.cons (.no _) (.cons (.eq _) (.cons (.no _) .nil))))))))))))) (js_ctx (C' := (⟨S, [.va ((eT (eP6 eT1 eT1 eT1 eI eI eI)) rides), .va (eI change), .no, .va (eI patience), .va ((eM eT1 eI) late_1), .ow (.dic (List.map (kvE eT1 (eP2 eI eI)) st18) false false), .va (eI x19.1), .va (eT1 x19.2), .va ((eP6 eT1 eT1 eT1 eI eI eI) ride_20), .va (eI st30), .no, .va (eI least_35), .no]⟩ : Ct)) rfl (JG.of (js_ifl (JT.of (t' := (some (decide (least_35 ≤ (x19.1 + patience))))) (jt_b (JE.of (je_cmp (fun x y => some (decide (x ≤ y))) (fun x y z h => by rw [o_leI]; exact h) (JE.v (je_var (ea := eI) (v := least_35) rfl)) (JE.v (JE.of (je_bin (ea := eI) (eb := eI) (ec := eI) (fun x y => some (x + y)) o_add (JE.v (je_var (ea := eI) (v := x19.1) rfl)) (JE.v (je_var (ea := eI) (v := patience) rfl))) rfl))) rfl)) rfl) (js_asg (C' := fun true__38 => (⟨S, [.va ((eT (eP6 eT1 eT1 eT1 eI eI eI)) rides), .va (eI change), .no, .va (eI patience), .va ((eM eT1 eI) late_1), .ow (.dic (List.map (kvE eT1 (eP2 eI eI)) st18) false false), .va (eI x19.1), .va (eT1 x19.2), .va ((eP6 eT1 eT1 eT1 eI eI eI) ride_20), .va (eI true__38), .no, .va (eI least_35), .no]⟩ : Ct)) (JE.of (t' := (some (if least_35 > st30 then least_35 else st30))) (je_blt2 (fun x y => some (if y > x then y else x)) o_max2 (je_var (ea := eI) (v := st30) rfl) (je_var (ea := eI) (v := least_35) rfl)) rfl) (fun _ => jb_nm 9 _) (fun true__38 => (js_wk (c' := [.va ((eT (eP6 eT1 eT1 eT1 eI eI eI)) rides), .va (eI change), .no, .va (eI patience), .va ((eM eT1 eI) late_1), .ow (.dic (List.map (kvE eT1 (eP2 eI eI)) st18) false false), .va (eI x19.1), .va (eT1 x19.2), .va ((eP6 eT1 eT1 eT1 eI eI eI) ride_20), .va (eI true__38), .no, .no, .no]) (.cons (.eq _) (.cons (.eq _) (.cons (.no _) (.cons (.eq _) (.cons (.eq _) (.cons (.eq _) (.cons (.eq _) (.cons (.eq _) (.cons (.eq _) (.cons (.eq _) (.cons (.no _) (.cons (.no _) (.cons (.no _) .nil))))))))))))) (js_ctx (C' := (⟨S, [.va ((eT (eP6 eT1 eT1 eT1 eI eI eI)) rides), .va (eI change), .no, .va (eI patience), .va ((eM eT1 eI) late_1), .ow (.dic (List.map (kvE eT1 (eP2 eI eI)) st18) false false), .va (eI x19.1), .va (eT1 x19.2), .va ((eP6 eT1 eT1 eT1 eI eI eI) ride_20), .va (eI true__38), .no, .no, .no]⟩ : Ct)) rfl (js_endN (L := (fun st30 : Int => (⟨S, [.va ((eT (eP6 eT1 eT1 eT1 eI eI eI)) rides), .va (eI change), .no, .va (eI patience), .va ((eM eT1 eI) late_1), .ow (.dic (List.map (kvE eT1 (eP2 eI eI)) st18) false false), .va (eI x19.1), .va (eT1 x19.2), .va ((eP6 eT1 eT1 eT1 eI eI eI) ride_20), .va (eI st30), .no, .no, .no]⟩ : Ct))) true__38 (.cons (.eq _) (.cons (.eq _) (.cons (.no _) (.cons (.eq _) (.cons (.eq _) (.cons (.eq _) (.cons (.eq _) (.cons (.eq _) (.cons (.eq _) (.cons (.eq _) (.cons (.no _) (.cons (.no _) (.cons (.no _) .nil))))))))))))) rfl))))) (js_endN (L := (fun st30 : Int => (⟨S, [.va ((eT (eP6 eT1 eT1 eT1 eI eI eI)) rides), .va (eI change), .no, .va (eI patience), .va ((eM eT1 eI) late_1), .ow (.dic (List.map (kvE eT1 (eP2 eI eI)) st18) false false), .va (eI x19.1), .va (eT1 x19.2), .va ((eP6 eT1 eT1 eT1 eI eI eI) ride_20), .va (eI st30), .no, .no, .no]⟩ : Ct))) st30 (.cons (.eq _) (.cons (.eq _) (.cons (.no _) (.cons (.eq _) (.cons (.eq _) (.cons (.eq _) (.cons (.eq _) (.cons (.eq _) (.cons (.eq _) (.cons (.eq _) (.cons (.no _) (.cons (.no _) (.cons (.no _) .nil))))))))))))) rfl)) (ite_ob _ _ _)))))) rfl)) (fun st30 => (js_put (ek := eT1) (ev' := (eP2 eI eI)) (xs := st18) key_S rfl (JE.of (t' := (some (st30, ((ride_20.2.2.2.2.1 + st30) - x19.1)))) (je_tup (ec := (eP2 eI eI)) (ja_cons (je_var (ea := eI) (v := st30) rfl) (ja_cons (JE.of (je_bin (ea := eI) (eb := eI) (ec := eI) (fun x y => some (x - y)) o_sub (JE.v (JE.of (je_bin (ea := eI) (eb := eI) (ec := eI) (fun x y => some (x + y)) o_add (JE.v (JE.of (je_at (ec := eI) (fun v => v.2.2.2.2.1) (fun _ => rfl) (JE.v (je_var (ea := (eP6 eT1 eT1 eT1 eI eI eI)) (v := ride_20) rfl)) (JE.of (je_cst (ea := eI) (v := 4) rfl) rfl)) rfl)) (JE.v (je_var (ea := eI) (v := st30) rfl))) rfl)) (JE.v (je_var (ea := eI) (v := x19.1) rfl))) rfl) ja_nil)) (fun v => (v.1, v.2.1)) (fun _ => ⟨rfl, rfl⟩)) rfl) (JE.of (t' := (some x19.2)) (je_var (ea := eT1) (v := x19.2) rfl) rfl) (fun found_32 => (js_ctx (C' := (⟨S, [.va ((eT (eP6 eT1 eT1 eT1 eI eI eI)) rides), .va (eI change), .no, .va (eI patience), .va ((eM eT1 eI) late_1), .ow (.dic (List.map (kvE eT1 (eP2 eI eI)) found_32) false false), .va (eI x19.1), .va (eT1 x19.2), .va ((eP6 eT1 eT1 eT1 eI eI eI) ride_20), .va (eI st30), .no, .no, .no]⟩ : Ct)) rfl (js_wk (c' := [.va ((eT (eP6 eT1 eT1 eT1 eI eI eI)) rides), .va (eI change), .no, .va (eI patience), .va ((eM eT1 eI) late_1), .ow (.dic (List.map (kvE eT1 (eP2 eI eI)) found_32) false false), .no, .no, .no, .no, .no, .no, .no]) (.cons (.eq _) (.cons (.eq _) (.cons (.no _) (.cons (.eq _) (.cons (.eq _) (.cons (.eq _) (.cons (.no _) (.cons (.no _) (.cons (.no _) (.cons (.no _) (.cons (.no _) (.cons (.no _) (.cons (.no _) .nil))))))))))))) (js_ctx (C' := (⟨S, [.va ((eT (eP6 eT1 eT1 eT1 eI eI eI)) rides), .va (eI change), .no, .va (eI patience), .va ((eM eT1 eI) late_1), .ow (.dic (List.map (kvE eT1 (eP2 eI eI)) found_32) false false), .no, .no, .no, .no, .no, .no, .no]⟩ : Ct)) rfl (js_endN (L := (fun st18 : (List (SO × (Int × Int))) => (⟨S, [.va ((eT (eP6 eT1 eT1 eT1 eI eI eI)) rides), .va (eI change), .no, .va (eI patience), .va ((eM eT1 eI) late_1), .ow (.dic (List.map (kvE eT1 (eP2 eI eI)) st18) false false), .no, .no, .no, .no, .no, .no, .no]⟩ : Ct))) found_32 (.cons (.eq _) (.cons (.eq _) (.cons (.no _) (.cons (.eq _) (.cons (.eq _) (.cons (.eq _) (.cons (.no _) (.cons (.no _) (.cons (.no _) (.cons (.no _) (.cons (.no _) (.cons (.no _) (.cons (.no _) .nil))))))))))))) rfl)))))))))))) rfl)) (fun st18 => (js_retV (er := (eM eT1 (eP2 eI eI))) (x := st18) rfl (.inl ⟨_, rfl, rfl⟩)))))))))))) rfl
theorem m_run (k : Nat) (hk : 3 ≤ k) : FnT (F k) 6 (fun v : (List (SO × SO × SO × Int × Int × Int)) × Int × (List (SO × Int)) × Int × Unit => [(true, (eT (eP6 eT1 eT1 eT1 eI eI eI)) v.1), (true, eI v.2.1), (true, (eT (eP2 eT1 eI)) v.2.2.1), (true, eI v.2.2.2.1)]) (fun v => f_run v.1 v.2.1 v.2.2.1 v.2.2.2.1) (eM eT1 (eP2 eI eI)) := match k, hk with
  | k + 1, hk => fn_of (g_run k) fun S v hS => t_run k (by omega) S hS v.1 v.2.1 v.2.2.1 v.2.2.2.1
def f_true_times (rides : (List (SO × SO × SO × Int × Int × Int))) (change : Int) (delays : (List (SO × Int))) (patience : Int) : (Option (List (SO × Int × Int))) :=
  (Option.bind (f_run rides change delays patience) fun found_1 => (Option.bind (Option.map (fun (v : (List SO)) => v) (srtM ltS found_1)) fun xs => (mapO (fun (name_2 : SO) => (Option.bind (getM found_1 name_2) fun y4 => (some ((name_2), y4.1, y4.2)))) xs)))
theorem t_true_times (k : Nat) (hk : 3 ≤ k) (S : Sto) (hS : S.all Ob.flat = true) (rides : (List (SO × SO × SO × Int × Int × Int))) (change : Int) (delays : (List (SO × Int))) (patience : Int) : JG (F k) gam (startC S [(true, (eT (eP6 eT1 eT1 eT1 eI eI eI)) rides), (true, eI change), (true, (eT (eP2 eT1 eI)) delays), (true, eI patience)] 6) b_true_times (semR (eL (eP3 eT1 eI eI)) fun _ => S) (f_true_times rides change delays patience) :=
  JG.of (js_ctx (C' := (⟨S, [.va ((eT (eP6 eT1 eT1 eT1 eI eI eI)) rides), .va (eI change), .va ((eT (eP2 eT1 eI)) delays), .va (eI patience), .no, .no]⟩ : Ct)) rfl (js_asg (C' := fun found_1 => (⟨S, [.va ((eT (eP6 eT1 eT1 eT1 eI eI eI)) rides), .va (eI change), .va ((eT (eP2 eT1 eI)) delays), .va (eI patience), .va ((eM eT1 (eP2 eI eI)) found_1), .no]⟩ : Ct)) (JE.of (t' := (f_run rides change delays patience)) (je_call (ja_cons (je_var (ea := (eT (eP6 eT1 eT1 eT1 eI eI eI))) (v := rides) rfl) (ja_cons (je_var (ea := eI) (v := change) rfl) (ja_cons (je_var (ea := (eT (eP2 eT1 eI))) (v := delays) rfl) (ja_cons (je_var (ea := eI) (v := patience) rfl) ja_nil)))) (m_run _ (by omega)) hS) (by simp only [ob1, ob2, ob3, ob4])) (fun _ => jb_nm 4 _) (fun found_1 => (js_wk (c' := [.no, .no, .no, .no, .va ((eM eT1 (eP2 eI eI)) found_1), .no]) (.cons (.no _) (.cons (.no _) (.cons (.no _) (.cons (.no _) (.cons (.eq _) (.cons (.no _) .nil)))))) (js_ctx (C' := (⟨S, [.no, .no, .no, .no, .va ((eM eT1 (eP2 eI eI)) found_1), .no]⟩ : Ct)) rfl (js_ret (JE.of (t' := (Option.bind (Option.map (fun (v : (List SO)) => v) (srtM ltS found_1)) fun xs => (mapO (fun (name_2 : SO) => (Option.bind (getM found_1 name_2) fun y4 => (some ((name_2), y4.1, y4.2)))) xs))) (je_map (C' := (fun name_2 : SO => (⟨S, [.no, .no, .no, .no, .va ((eM eT1 (eP2 eI eI)) found_1), .va (eT1 name_2)]⟩ : Ct))) (g := fun (name_2 : SO) => (Option.bind (getM found_1 name_2) fun y4 => (some ((name_2), y4.1, y4.2)))) (JI0.i (JI0.of (t' := (Option.map (fun (v : (List SO)) => v) (srtM ltS found_1))) (ji_seq0 (fun v => v) (fun _ => .inl rfl) (JE.of (t' := (srtM ltS found_1)) (je_blt (fun x => srtM ltS x) (o_sortM lt_S (by decide) (fun _ => rfl) (fun xs => by rw [strKs_S]; rfl)) (JE.v (je_var (ea := (eM eT1 (eP2 eI eI))) (v := found_1) rfl))) (by simp only [ob1, ob2, ob3, ob4]))) (by simp only [ob1, ob2, ob3, ob4]))) (fun name_2 => (jb_nm 5 _)) (fun name_2 => (JE.of (t' := (Option.bind (getM found_1 name_2) fun y4 => (some ((name_2), y4.1, y4.2)))) (je_bin (ea := (eP1 eT1)) (eb := (eP2 eI eI)) (ec := (eP3 eT1 eI eI)) (fun x y => some (x, y.1, y.2)) (fun _ _ _ h => by cases h; exact o_tup rfl rfl rfl (Nat.le_of_ble_eq_true rfl)) (JE.v (JE.of (je_tup (ec := (eP1 eT1)) (ja_cons (je_var (ea := eT1) (v := name_2) rfl) ja_nil) (fun v => (v.1)) (fun _ => ⟨rfl, rfl⟩)) rfl)) (JE.v (JE.of (t' := (getM found_1 name_2)) (je_ix (fun x y => getM x y) (o_get key_S) (JE.v (je_var (ea := (eM eT1 (eP2 eI eI))) (v := found_1) rfl)) (JE.v (je_var (ea := eT1) (v := name_2) rfl))) (by simp only [ob1, ob2, ob3, ob4])))) (by simp only [ob1, ob2, ob3, ob4])))) (by simp only [ob1, ob2, ob3, ob4])))))))) rfl
theorem m_true_times (k : Nat) (hk : 4 ≤ k) : FnT (F k) 7 (fun v : (List (SO × SO × SO × Int × Int × Int)) × Int × (List (SO × Int)) × Int × Unit => [(true, (eT (eP6 eT1 eT1 eT1 eI eI eI)) v.1), (true, eI v.2.1), (true, (eT (eP2 eT1 eI)) v.2.2.1), (true, eI v.2.2.2.1)]) (fun v => f_true_times v.1 v.2.1 v.2.2.1 v.2.2.2.1) (eL (eP3 eT1 eI eI)) := match k, hk with
  | k + 1, hk => fn_of (g_true_times k) fun S v hS => t_true_times k (by omega) S hS v.1 v.2.1 v.2.2.1 v.2.2.2.1
def f_missed (rides : (List (SO × SO × SO × Int × Int × Int))) (change : Int) (delays : (List (SO × Int))) (patience : Int) : (Option (List (SO × SO))) :=
  (Option.bind (f_run rides change delays patience) fun found_1 => (let rows_2 : (List (SO × SO)) := ([] : List (SO × SO)); (Option.bind (Option.map (fun (v : (List SO)) => v) (srtM ltS found_1)) fun xs19 => (Option.bind (forN (fun (name_6 : SO) (st5 : (List (SO × SO))) => (Option.bind (Option.map (fun (v : (List SO)) => v) (f_met_by rides change name_6)) fun xs18 => (Option.bind (forN (fun (other_10 : SO) (st9 : (List (SO × SO))) => (Option.bind (Option.bind (Option.map (fun (v : (Int × Int)) => v.1) (getM found_1 name_6)) fun x13 => (Option.bind (Option.bind (Option.map (fun (v : (Int × Int)) => v.2) (getM found_1 other_10)) fun x11 => (some (x11 + change))) fun y14 => (some (decide (x13 < y14))))) fun b17 => (if b17 = true then (Option.bind (pshO st9 (name_6, other_10)) fun rows_15 => (some rows_15)) else (some st9)))) xs18 st5) fun st9 => (some st9)))) xs19 rows_2) fun st5 => (some st5)))))
theorem t_missed (k : Nat) (hk : 3 ≤ k) (S : Sto) (hS : S.all Ob.flat = true) (rides : (List (SO × SO × SO × Int × Int × Int))) (change : Int) (delays : (List (SO × Int))) (patience : Int) : JG (F k) gam (startC S [(true, (eT (eP6 eT1 eT1 eT1 eI eI eI)) rides), (true, eI change), (true, (eT (eP2 eT1 eI)) delays), (true, eI patience)] 8) b_missed (semR (eL (eP2 eT1 eT1)) fun _ => S) (f_missed rides change delays patience) :=
  JG.of (js_ctx (C' := (⟨S, [.va ((eT (eP6 eT1 eT1 eT1 eI eI eI)) rides), .va (eI change), .va ((eT (eP2 eT1 eI)) delays), .va (eI patience), .no, .no, .no, .no]⟩ : Ct)) rfl (js_asg (C' := fun found_1 => (⟨S, [.va ((eT (eP6 eT1 eT1 eT1 eI eI eI)) rides), .va (eI change), .va ((eT (eP2 eT1 eI)) delays), .va (eI patience), .va ((eM eT1 (eP2 eI eI)) found_1), .no, .no, .no]⟩ : Ct)) (JE.of (t' := (f_run rides change delays patience)) (je_call (ja_cons (je_var (ea := (eT (eP6 eT1 eT1 eT1 eI eI eI))) (v := rides) rfl) (ja_cons (je_var (ea := eI) (v := change) rfl) (ja_cons (je_var (ea := (eT (eP2 eT1 eI))) (v := delays) rfl) (ja_cons (je_var (ea := eI) (v := patience) rfl) ja_nil)))) (m_run _ (by omega)) hS) (by simp only [ob1, ob2, ob3, ob4])) (fun _ => jb_nm 4 _) (fun found_1 => (js_wk (c' := [.va ((eT (eP6 eT1 eT1 eT1 eI eI eI)) rides), .va (eI change), .no, .no, .va ((eM eT1 (eP2 eI eI)) found_1), .no, .no, .no]) (.cons (.eq _) (.cons (.eq _) (.cons (.no _) (.cons (.no _) (.cons (.eq _) (.cons (.no _) (.cons (.no _) (.cons (.no _) .nil)))))))) (js_ctx (C' := (⟨S, [.va ((eT (eP6 eT1 eT1 eT1 eI eI eI)) rides), .va (eI change), .no, .no, .va ((eM eT1 (eP2 eI eI)) found_1), .no, .no, .no]⟩ : Ct)) rfl (js_new (JE.of (t' := (some ([] : List (SO × SO)))) (je_lst (ec := (eL (eP2 eT1 eT1))) ja_nil (fun _ => []) (fun _ => ⟨rfl, rfl⟩)) rfl) (fun rows_2 => (js_ctx (C' := (⟨S, [.va ((eT (eP6 eT1 eT1 eT1 eI eI eI)) rides), .va (eI change), .no, .no, .va ((eM eT1 (eP2 eI eI)) found_1), .ow (.lst (List.map (eP2 eT1 eT1) rows_2) false), .no, .no]⟩ : Ct)) rfl (js_forN (L := (fun st5 : (List (SO × SO)) => (⟨S, [.va ((eT (eP6 eT1 eT1 eT1 eI eI eI)) rides), .va (eI change), .no, .no, .va ((eM eT1 (eP2 eI eI)) found_1), .ow (.lst (List.map (eP2 eT1 eT1) st5) false), .no, .no]⟩ : Ct))) (C' := (fun (name_6 : SO) (st5 : (List (SO × SO))) => (⟨S, [.va ((eT (eP6 eT1 eT1 eT1 eI eI eI)) rides), .va (eI change), .no, .no, .va ((eM eT1 (eP2 eI eI)) found_1), .ow (.lst (List.map (eP2 eT1 eT1) st5) false), .va (eT1 name_6), .no]⟩ : Ct))) (s0 := rows_2) (f := (fun (name_6 : SO) (st5 : (List (SO × SO))) => (Option.bind (Option.map (fun (v : (List SO)) => v) (f_met_by rides change name_6)) fun xs18 => (Option.bind (forN (fun (other_10 : SO) (st9 : (List (SO × SO))) => (Option.bind (Option.bind (Option.map (fun (v : (Int × Int)) => v.1) (getM found_1 name_6)) fun x13 => (Option.bind (Option.bind (Option.map (fun (v : (Int × Int)) => v.2) (getM found_1 other_10)) fun x11 => (some (x11 + change))) fun y14 => (some (decide (x13 < y14))))) fun b17 => (if b17 = true then (Option.bind (pshO st9 (name_6, other_10)) fun rows_15 => (some rows_15)) else (some st9)))) xs18 st5) fun st9 => (some st9))))) (JI0.of (t' := (Option.map (fun (v : (List SO)) => v) (srtM ltS found_1))) (ji_seq0 (fun v => v) (fun _ => .inl rfl) (JE.of (t' := (srtM ltS found_1)) (je_blt (fun x => srtM ltS x) (o_sortM lt_S (by decide) (fun _ => rfl) (fun xs => by rw [strKs_S]; rfl)) (JE.v (je_var (ea := (eM eT1 (eP2 eI eI))) (v := found_1) rfl))) (by simp only [ob1, ob2, ob3, ob4]))) (by simp only [ob1, ob2, ob3, ob4])) (.cons (.eq _) (.cons (.eq _) (.cons (.no _) (.cons (.no _) (.cons (.eq _) (.cons (.eq _) (.cons (.no _) (.cons (.no _) .nil)))))))) rfl (fun _ => rfl) (fun name_6 st5 => (jb_nm 6 _)) (fun name_6 st5 => (JG.of (js_forN (L := (fun st9 : (List (SO × SO)) => (⟨S, [.va ((eT (eP6 eT1 eT1 eT1 eI eI eI)) rides), .va (eI change), .no, .no, .va ((eM eT1 (eP2 eI eI)) found_1), .ow (.lst (List.map (eP2 eT1 eT1) st9) false), .va (eT1 name_6), .no]⟩ : Ct))) (C' := (fun (other_10 : SO) (st9 : (List (SO × SO))) => (⟨S, [.va ((eT (eP6 eT1 eT1 eT1 eI eI eI)) rides), .va (eI change), .no, .no, .va ((eM eT1 (eP2 eI eI)) found_1), .ow (.lst (List.map (eP2 eT1 eT1) st9) false), .va (eT1 name_6), .va (eT1 other_10)]⟩ : Ct))) (s0 := st5) (f := (fun (other_10 : SO) (st9 : (List (SO × SO))) => (Option.bind (Option.bind (Option.map (fun (v : (Int × Int)) => v.1) (getM found_1 name_6)) fun x13 => (Option.bind (Option.bind (Option.map (fun (v : (Int × Int)) => v.2) (getM found_1 other_10)) fun x11 => (some (x11 + change))) fun y14 => (some (decide (x13 < y14))))) fun b17 => (if b17 = true then (Option.bind (pshO st9 (name_6, other_10)) fun rows_15 => (some rows_15)) else (some st9))))) (JI0.of (t' := (Option.map (fun (v : (List SO)) => v) (f_met_by rides change name_6))) (ji_seq0 (fun v => v) (fun _ => .inl rfl) (JE.of (t' := (f_met_by rides change name_6)) (je_call (ja_cons (je_var (ea := (eT (eP6 eT1 eT1 eT1 eI eI eI))) (v := rides) rfl) (ja_cons (je_var (ea := eI) (v := change) rfl) (ja_cons (je_var (ea := eT1) (v := name_6) rfl) ja_nil))) (m_met_by _ (by omega)) hS) (by simp only [ob1, ob2, ob3, ob4]))) (by simp only [ob1, ob2, ob3, ob4])) (.cons (.eq _) (.cons (.eq _) (.cons (.no _) (.cons (.no _) (.cons (.eq _) (.cons (.eq _) (.cons (.eq _) (.cons (.no _) .nil)))))))) rfl (fun _ => rfl) (fun other_10 st9 => (jb_nm 7 _)) (fun other_10 st9 => (JG.of (js_ifl (JT.of (t' := (Option.bind (Option.map (fun (v : (Int × Int)) => v.1) (getM found_1 name_6)) fun x13 => (Option.bind (Option.bind (Option.map (fun (v : (Int × Int)) => v.2) (getM found_1 other_10)) fun x11 => (some (x11 + change))) fun y14 => (some (decide (x13 < y14)))))) (jt_b (JE.of (t' := (Option.bind (Option.map (fun (v : (Int × Int)) => v.1) (getM found_1 name_6)) fun x13 => (Option.bind (Option.bind (Option.map (fun (v : (Int × Int)) => v.2) (getM found_1 other_10)) fun x11 => (some (x11 + change))) fun y14 => (some (decide (x13 < y14)))))) (je_cmp (fun x y => some (decide (x < y))) (fun x y z h => by rw [o_ltI]; exact h) (JE.v (JE.of (t' := (Option.map (fun (v : (Int × Int)) => v.1) (getM found_1 name_6))) (je_at (ec := eI) (fun v => v.1) (fun _ => rfl) (JE.v (JE.of (t' := (getM found_1 name_6)) (je_ix (fun x y => getM x y) (o_get key_S) (JE.v (je_var (ea := (eM eT1 (eP2 eI eI))) (v := found_1) rfl)) (JE.v (je_var (ea := eT1) (v := name_6) rfl))) (by simp only [ob1, ob2, ob3, ob4]))) (JE.of (je_cst (ea := eI) (v := 0) rfl) rfl)) (by simp only [ob1, ob2, ob3, ob4]))) (JE.v (JE.of (t' := (Option.bind (Option.map (fun (v : (Int × Int)) => v.2) (getM found_1 other_10)) fun x11 => (some (x11 + change)))) (je_bin (ea := eI) (eb := eI) (ec := eI) (fun x y => some (x + y)) o_add (JE.v (JE.of (t' := (Option.map (fun (v : (Int × Int)) => v.2) (getM found_1 other_10))) (je_at (ec := eI) (fun v => v.2) (fun _ => rfl) (JE.v (JE.of (t' := (getM found_1 other_10)) (je_ix (fun x y => getM x y) (o_get key_S) (JE.v (je_var (ea := (eM eT1 (eP2 eI eI))) (v := found_1) rfl)) (JE.v (je_var (ea := eT1) (v := other_10) rfl))) (by simp only [ob1, ob2, ob3, ob4]))) (JE.of (je_cst (ea := eI) (v := 1) rfl) rfl)) (by simp only [ob1, ob2, ob3, ob4]))) (JE.v (je_var (ea := eI) (v := change) rfl))) (by simp only [ob1, ob2, ob3, ob4])))) (by simp only [ob1, ob2, ob3, ob4]))) (by simp only [ob1, ob2, ob3, ob4])) (js_app (ea := (eP2 eT1 eT1)) (xs := st9) rfl (JE.of (t' := (some (name_6, other_10))) (je_tup (ec := (eP2 eT1 eT1)) (ja_cons (je_var (ea := eT1) (v := name_6) rfl) (ja_cons (je_var (ea := eT1) (v := other_10) rfl) ja_nil)) (fun v => (v.1, v.2.1)) (fun _ => ⟨rfl, rfl⟩)) rfl) (fun rows_15 => (js_ctx (C' := (⟨S, [.va ((eT (eP6 eT1 eT1 eT1 eI eI eI)) rides), .va (eI change), .no, .no, .va ((eM eT1 (eP2 eI eI)) found_1), .ow (.lst (List.map (eP2 eT1 eT1) rows_15) false), .va (eT1 name_6), .va (eT1 other_10)]⟩ : Ct)) rfl (js_wk (c' := [.va ((eT (eP6 eT1 eT1 eT1 eI eI eI)) rides), .va (eI change), .no, .no, .va ((eM eT1 (eP2 eI eI)) found_1), .ow (.lst (List.map (eP2 eT1 eT1) rows_15) false), .va (eT1 name_6), .no]) (.cons (.eq _) (.cons (.eq _) (.cons (.no _) (.cons (.no _) (.cons (.eq _) (.cons (.eq _) (.cons (.eq _) (.cons (.no _) .nil)))))))) (js_ctx (C' := (⟨S, [.va ((eT (eP6 eT1 eT1 eT1 eI eI eI)) rides), .va (eI change), .no, .no, .va ((eM eT1 (eP2 eI eI)) found_1), .ow (.lst (List.map (eP2 eT1 eT1) rows_15) false), .va (eT1 name_6), .no]⟩ : Ct)) rfl (js_endN (L := (fun st9 : (List (SO × SO)) => (⟨S, [.va ((eT (eP6 eT1 eT1 eT1 eI eI eI)) rides), .va (eI change), .no, .no, .va ((eM eT1 (eP2 eI eI)) found_1), .ow (.lst (List.map (eP2 eT1 eT1) st9) false), .va (eT1 name_6), .no]⟩ : Ct))) rows_15 (.cons (.eq _) (.cons (.eq _) (.cons (.no _) (.cons (.no _) (.cons (.eq _) (.cons (.eq _) (.cons (.eq _) (.cons (.no _) .nil)))))))) rfl)))))) (js_endN (L := (fun st9 : (List (SO × SO)) => (⟨S, [.va ((eT (eP6 eT1 eT1 eT1 eI eI eI)) rides), .va (eI change), .no, .no, .va ((eM eT1 (eP2 eI eI)) found_1), .ow (.lst (List.map (eP2 eT1 eT1) st9) false), .va (eT1 name_6), .no]⟩ : Ct))) st9 (.cons (.eq _) (.cons (.eq _) (.cons (.no _) (.cons (.no _) (.cons (.eq _) (.cons (.eq _) (.cons (.eq _) (.cons (.no _) .nil)))))))) rfl)) rfl)) (fun st9 => (js_endN (L := (fun st5 : (List (SO × SO)) => (⟨S, [.va ((eT (eP6 eT1 eT1 eT1 eI eI eI)) rides), .va (eI change), .no, .no, .va ((eM eT1 (eP2 eI eI)) found_1), .ow (.lst (List.map (eP2 eT1 eT1) st5) false), .no, .no]⟩ : Ct))) st9 (.cons (.eq _) (.cons (.eq _) (.cons (.no _) (.cons (.no _) (.cons (.eq _) (.cons (.eq _) (.cons (.no _) (.cons (.no _) .nil)))))))) rfl))) rfl)) (fun st5 => (js_retOw (ea := (eP2 eT1 eT1)) (xs := st5) rfl))))))))))) rfl
theorem m_missed (k : Nat) (hk : 4 ≤ k) : FnT (F k) 8 (fun v : (List (SO × SO × SO × Int × Int × Int)) × Int × (List (SO × Int)) × Int × Unit => [(true, (eT (eP6 eT1 eT1 eT1 eI eI eI)) v.1), (true, eI v.2.1), (true, (eT (eP2 eT1 eI)) v.2.2.1), (true, eI v.2.2.2.1)]) (fun v => f_missed v.1 v.2.1 v.2.2.1 v.2.2.2.1) (eL (eP2 eT1 eT1)) := match k, hk with
  | k + 1, hk => fn_of (g_missed k) fun S v hS => t_missed k (by omega) S hS v.1 v.2.1 v.2.2.1 v.2.2.2.1
def f__law_rides (most : Int) (d0 : Dr) : Option ((List (SO × SO × SO × Int × Int × Int)) × Dr) :=
  (let found_1 : (List (SO × SO × SO × Int × Int × Int)) := ([] : List (SO × SO × SO × Int × Int × Int)); (Option.bind (Option.map (fun (p : (List SO) × Dr) => (p.1, p.2)) (Option.bind (some ([q_ra, q_rb, q_rc, q_rd, q_re], d0)) fun p => Option.bind ((fun (d30 : Dr) => (some (none, d30))) p.2) fun l => Option.map (fun (h : Option Int × Dr) => (cutG p.1 l.1 h.1, h.2)) ((fun (d31 : Dr) => (Option.map (fun (p : Int × Dr) => (some p.1, p.2)) (Nx d31 (most + (1 : Int))))) l.2))) fun p => Option.bind (forN (fun (ride_33 : SO) (st29 : Dr × (List (SO × SO × SO × Int × Int × Int))) => (Option.bind (Option.bind (Nx st29.1 (3 : Int)) fun p => Option.map (fun (q : (Int × Unit) × Dr) => ((p.1, q.1), q.2)) ((fun (d35 : Dr) => (Option.bind (Nx d35 (20 : Int)) fun p => Option.map (fun (q : (Unit) × Dr) => ((p.1, q.1), q.2)) ((fun (d37 : Dr) => (Option.map (fun v => (v, d37)) (some ()))) p.2))) p.2)) fun p => (fun (p_38 : Int × Int × Unit) (d39 : Dr) => (Option.bind (Option.bind (Option.map (fun v => (v, d39)) (Option.map (fun xs => (List.map (fun (j_42 : Int) => j_42) (List.filter (fun (j_42 : Int) => (!decide (j_42 = p_38.1))) xs))) (rngO 0 (3 : Int)))) fun p => Option.bind ((fun (d41 : Dr) => (Nx d41 (2 : Int))) p.2) fun q => Option.map (fun z => (z, q.2)) (atI p.1 q.1)) fun p => (fun (other_40 : Int) (d44 : Dr) => (Option.bind (Option.map (fun (p : (SO × SO × SO × Int × Int × Int × Unit) × Dr) => ((fun v => (v.1, v.2.1, v.2.2.1, v.2.2.2.1, v.2.2.2.2.1, v.2.2.2.2.2.1)) p.1, p.2)) (Option.bind (some (ride_33, d44)) fun p => Option.map (fun (q : (SO × SO × Int × Int × Int × Unit) × Dr) => ((p.1, q.1), q.2)) ((fun (d47 : Dr) => (Option.bind (Option.map (fun v => (v, d47)) (atI [q_inn, q_port, q_spa] p_38.1)) fun p => Option.map (fun (q : (SO × Int × Int × Int × Unit) × Dr) => ((p.1, q.1), q.2)) ((fun (d48 : Dr) => (Option.bind (Option.map (fun v => (v, d48)) (atI [q_inn, q_port, q_spa] other_40)) fun p => Option.map (fun (q : (Int × Int × Int × Unit) × Dr) => ((p.1, q.1), q.2)) ((fun (d49 : Dr) => (Option.bind (some (p_38.2.1, d49)) fun p => Option.map (fun (q : (Int × Int × Unit) × Dr) => ((p.1, q.1), q.2)) ((fun (d50 : Dr) => (Option.bind (Option.bind (some ((p_38.2.1 + (1 : Int)), d50)) fun p => Option.bind ((fun (d51 : Dr) => (Nx d51 (9 : Int))) p.2) fun q => Option.map (fun z => (z, q.2)) (some (p.1 + q.1))) fun p => Option.map (fun (q : (Int × Unit) × Dr) => ((p.1, q.1), q.2)) ((fun (d53 : Dr) => (Option.bind (Option.bind (some ((1 : Int), d53)) fun p => Option.bind ((fun (d54 : Dr) => (Nx d54 (2 : Int))) p.2) fun q => Option.map (fun z => (z, q.2)) (some (p.1 + q.1))) fun p => Option.map (fun (q : (Unit) × Dr) => ((p.1, q.1), q.2)) ((fun (d56 : Dr) => (some ((), d56))) p.2))) p.2))) p.2))) p.2))) p.2))) p.2))) fun p => Option.bind (pshO st29.2 p.1) fun ys => (fun (found_45 : (List (SO × SO × SO × Int × Int × Int))) (d57 : Dr) => (some (d57, found_45))) ys p.2)) p.1 p.2)) p.1 p.2)) p.1 ((fun (d58 : Dr) => (d58, found_1)) p.2)) fun st29 => (some (st29.2, st29.1))))
theorem t__law_rides (k : Nat) (hk : 1 ≤ k) (S : Sto) (kd : Nat) (d0 : Dr) (hkd : kd < S.length) (hS : S.all Ob.flat = true) (most : Int) : JG (F k) gam (startX S kd [eI most] 8 d0) b__law_rides (semR (fun r : (List (SO × SO × SO × Int × Int × Int)) × Dr => (eT (eP6 eT1 eT1 eT1 eI eI eI)) r.1) fun r => S.set kd (dO r.2)) (f__law_rides most d0) :=
  JG.of (js_ctx (C' := (CB S kd [.rf kd, .va (eI most), .no, .no, .no, .no, .no, .no] d0)) rfl (js_new (JE.of (t' := (some ([] : List (SO × SO × SO × Int × Int × Int)))) (je_lst (ec := (eL (eP6 eT1 eT1 eT1 eI eI eI))) ja_nil (fun _ => []) (fun _ => ⟨rfl, rfl⟩)) rfl) (fun found_1 => (js_ctx (C' := (CB S kd [.rf kd, .va (eI most), .ow (.lst (List.map (eP6 eT1 eT1 eT1 eI eI eI) found_1) false), .no, .no, .no, .no, .no] d0)) rfl (js_forNX (C := (CB S kd [.rf kd, .va (eI most), .ow (.lst (List.map (eP6 eT1 eT1 eT1 eI eI eI) found_1) false), .no, .no, .no, .no, .no])) (L := (fun st29 : Dr × (List (SO × SO × SO × Int × Int × Int)) => (CB S kd [.rf kd, .no, .ow (.lst (List.map (eP6 eT1 eT1 eT1 eI eI eI) st29.2) false), .no, .no, .no, .no, .no] st29.1))) (C' := (fun (ride_33 : SO) (st29 : Dr × (List (SO × SO × SO × Int × Int × Int))) => (CB S kd [.rf kd, .no, .ow (.lst (List.map (eP6 eT1 eT1 eT1 eI eI eI) st29.2) false), .va (eT1 ride_33), .no, .no, .no, .no] st29.1))) (s0 := fun d58 => (d58, found_1)) (f := (fun (ride_33 : SO) (st29 : Dr × (List (SO × SO × SO × Int × Int × Int))) => (Option.bind (Option.bind (Nx st29.1 (3 : Int)) fun p => Option.map (fun (q : (Int × Unit) × Dr) => ((p.1, q.1), q.2)) ((fun (d35 : Dr) => (Option.bind (Nx d35 (20 : Int)) fun p => Option.map (fun (q : (Unit) × Dr) => ((p.1, q.1), q.2)) ((fun (d37 : Dr) => (Option.map (fun v => (v, d37)) (some ()))) p.2))) p.2)) fun p => (fun (p_38 : Int × Int × Unit) (d39 : Dr) => (Option.bind (Option.bind (Option.map (fun v => (v, d39)) (Option.map (fun xs => (List.map (fun (j_42 : Int) => j_42) (List.filter (fun (j_42 : Int) => (!decide (j_42 = p_38.1))) xs))) (rngO 0 (3 : Int)))) fun p => Option.bind ((fun (d41 : Dr) => (Nx d41 (2 : Int))) p.2) fun q => Option.map (fun z => (z, q.2)) (atI p.1 q.1)) fun p => (fun (other_40 : Int) (d44 : Dr) => (Option.bind (Option.map (fun (p : (SO × SO × SO × Int × Int × Int × Unit) × Dr) => ((fun v => (v.1, v.2.1, v.2.2.1, v.2.2.2.1, v.2.2.2.2.1, v.2.2.2.2.2.1)) p.1, p.2)) (Option.bind (some (ride_33, d44)) fun p => Option.map (fun (q : (SO × SO × Int × Int × Int × Unit) × Dr) => ((p.1, q.1), q.2)) ((fun (d47 : Dr) => (Option.bind (Option.map (fun v => (v, d47)) (atI [q_inn, q_port, q_spa] p_38.1)) fun p => Option.map (fun (q : (SO × Int × Int × Int × Unit) × Dr) => ((p.1, q.1), q.2)) ((fun (d48 : Dr) => (Option.bind (Option.map (fun v => (v, d48)) (atI [q_inn, q_port, q_spa] other_40)) fun p => Option.map (fun (q : (Int × Int × Int × Unit) × Dr) => ((p.1, q.1), q.2)) ((fun (d49 : Dr) => (Option.bind (some (p_38.2.1, d49)) fun p => Option.map (fun (q : (Int × Int × Unit) × Dr) => ((p.1, q.1), q.2)) ((fun (d50 : Dr) => (Option.bind (Option.bind (some ((p_38.2.1 + (1 : Int)), d50)) fun p => Option.bind ((fun (d51 : Dr) => (Nx d51 (9 : Int))) p.2) fun q => Option.map (fun z => (z, q.2)) (some (p.1 + q.1))) fun p => Option.map (fun (q : (Int × Unit) × Dr) => ((p.1, q.1), q.2)) ((fun (d53 : Dr) => (Option.bind (Option.bind (some ((1 : Int), d53)) fun p => Option.bind ((fun (d54 : Dr) => (Nx d54 (2 : Int))) p.2) fun q => Option.map (fun z => (z, q.2)) (some (p.1 + q.1))) fun p => Option.map (fun (q : (Unit) × Dr) => ((p.1, q.1), q.2)) ((fun (d56 : Dr) => (some ((), d56))) p.2))) p.2))) p.2))) p.2))) p.2))) p.2))) fun p => Option.bind (pshO st29.2 p.1) fun ys => (fun (found_45 : (List (SO × SO × SO × Int × Int × Int))) (d57 : Dr) => (some (d57, found_45))) ys p.2)) p.1 p.2)) p.1 p.2))) (jxi_seq (fun v => v) (fun _ => .inl rfl) (jx_slc (fun x l h => cutG x l h) o_slcL (jx_e (JE.of (je_lst (ec := (eL eT1)) (ja_cons (je_cst (ea := eT1) (v := q_ra) rfl) (ja_cons (je_cst (ea := eT1) (v := q_rb) rfl) (ja_cons (je_cst (ea := eT1) (v := q_rc) rfl) (ja_cons (je_cst (ea := eT1) (v := q_rd) rfl) (ja_cons (je_cst (ea := eT1) (v := q_re) rfl) ja_nil))))) (fun v => [v.1, v.2.1, v.2.2.1, v.2.2.2.1, v.2.2.2.2.1]) (fun _ => ⟨rfl, rfl⟩)) rfl)) (fun (d30 : Dr) => jxo_nil) (fun (d31 : Dr) => (jxo_cons (jx_nxt (nx_at _ (by omega)) rfl hkd rfl hS (jx_e (JE.of (je_bin (ea := eI) (eb := eI) (ec := eI) (fun x y => some (x + y)) o_add (JE.v (je_var (ea := eI) (v := most) rfl)) (JE.v (je_cst (ea := eI) (v := 1) rfl))) rfl))))))) (fun (d58 : Dr) => (.cons (.eq _) (.cons (.no _) (.cons (.eq _) (.cons (.no _) (.cons (.no _) (.cons (.no _) (.cons (.no _) (.cons (.no _) .nil))))))))) (fun _ => rfl) (fun _ => rfl) (fun ride_33 st29 => (jb_nm 3 _)) (fun ride_33 st29 => (JG.of (js_parXP (C := (CB S kd [.rf kd, .no, .ow (.lst (List.map (eP6 eT1 eT1 eT1 eI eI eI) st29.2) false), .va (eT1 ride_33), .no, .no, .no, .no])) (jxp_cons (jx_nxt (nx_at _ (by omega)) rfl hkd rfl hS (jx_e (je_cst (ea := eI) (v := 3) rfl))) (fun (d35 : Dr) => (jxp_cons (jx_nxt (nx_at _ (by omega)) rfl hkd rfl hS (jx_e (je_cst (ea := eI) (v := 20) rfl))) (fun (d37 : Dr) => (jxp_of jp_nil))))) (fun p_38 d39 => (js_ctx (C' := (CB S kd [.rf kd, .no, .ow (.lst (List.map (eP6 eT1 eT1 eT1 eI eI eI) st29.2) false), .va (eT1 ride_33), .va (eI p_38.1), .va (eI p_38.2.1), .no, .no] d39)) rfl (js_asgX (C := (CB S kd [.rf kd, .no, .ow (.lst (List.map (eP6 eT1 eT1 eT1 eI eI eI) st29.2) false), .va (eT1 ride_33), .va (eI p_38.1), .va (eI p_38.2.1), .no, .no])) (C' := fun other_40 d44 => (CB S kd [.rf kd, .no, .ow (.lst (List.map (eP6 eT1 eT1 eT1 eI eI eI) st29.2) false), .va (eT1 ride_33), .va (eI p_38.1), .va (eI p_38.2.1), .va (eI other_40), .no] d44)) (jx_ix (ea := (eL eI)) (eb := eI) (ec := eI) (fun x y => atI x y) o_ixL (jx_e (JE.of (t' := (Option.map (fun xs => (List.map (fun (j_42 : Int) => j_42) (List.filter (fun (j_42 : Int) => (!decide (j_42 = p_38.1))) xs))) (rngO 0 (3 : Int)))) (je_filT (C' := (fun j_42 : Int => (CB S kd [.rf kd, .no, .ow (.lst (List.map (eP6 eT1 eT1 eT1 eI eI eI) st29.2) false), .va (eT1 ride_33), .va (eI p_38.1), .va (eI p_38.2.1), .no, .va (eI j_42)] d39))) (p := fun (j_42 : Int) => (!decide (j_42 = p_38.1))) (g := fun (j_42 : Int) => j_42) (JI0.i (JI0.of (t' := (rngO 0 (3 : Int))) (ji_rng (je_cst (ea := eI) (v := 3) rfl)) (by simp only [ob1, ob2, ob3, ob4]))) (fun j_42 => (jb_nm 7 _)) (fun j_42 => (JT.of (jt_b (JE.of (je_cmp (fun x y => some (!decide (x = y))) (fun x y z h => by rw [o_ne eq_I (by decide)]; exact h) (JE.v (je_var (ea := eI) (v := j_42) rfl)) (JE.v (je_var (ea := eI) (v := p_38.1) rfl))) rfl)) rfl)) (fun j_42 => (je_var (ea := eI) (v := j_42) rfl))) (by simp only [ob1, ob2, ob3, ob4]))) (fun (d41 : Dr) => (jx_nxt (nx_at _ (by omega)) rfl hkd rfl hS (jx_e (je_cst (ea := eI) (v := 2) rfl))))) (fun _ _ => jb_nm 6 _) (fun other_40 d44 => (js_appX (B := fun d => S.set kd (dO d)) (d := d44) (c := [.rf kd, .no, .ow (.lst (List.map (eP6 eT1 eT1 eT1 eI eI eI) st29.2) false), .va (eT1 ride_33), .va (eI p_38.1), .va (eI p_38.2.1), .va (eI other_40), .no]) (ea := (eP6 eT1 eT1 eT1 eI eI eI)) (xs := st29.2) rfl (jx_tup (ec := (eP6 eT1 eT1 eT1 eI eI eI)) (jxa_cons (jx_e (je_var (ea := eT1) (v := ride_33) rfl)) (fun (d47 : Dr) => (jxa_cons (jx_e (JE.of (t' := (atI [q_inn, q_port, q_spa] p_38.1)) (je_ix (fun x y => atI x y) o_ixL (JE.v (JE.of (je_lst (ec := (eL eT1)) (ja_cons (je_cst (ea := eT1) (v := q_inn) rfl) (ja_cons (je_cst (ea := eT1) (v := q_port) rfl) (ja_cons (je_cst (ea := eT1) (v := q_spa) rfl) ja_nil))) (fun v => [v.1, v.2.1, v.2.2.1]) (fun _ => ⟨rfl, rfl⟩)) rfl)) (JE.v (je_var (ea := eI) (v := p_38.1) rfl))) (by simp only [ob1, ob2, ob3, ob4]))) (fun (d48 : Dr) => (jxa_cons (jx_e (JE.of (t' := (atI [q_inn, q_port, q_spa] other_40)) (je_ix (fun x y => atI x y) o_ixL (JE.v (JE.of (je_lst (ec := (eL eT1)) (ja_cons (je_cst (ea := eT1) (v := q_inn) rfl) (ja_cons (je_cst (ea := eT1) (v := q_port) rfl) (ja_cons (je_cst (ea := eT1) (v := q_spa) rfl) ja_nil))) (fun v => [v.1, v.2.1, v.2.2.1]) (fun _ => ⟨rfl, rfl⟩)) rfl)) (JE.v (je_var (ea := eI) (v := other_40) rfl))) (by simp only [ob1, ob2, ob3, ob4]))) (fun (d49 : Dr) => (jxa_cons (jx_e (je_var (ea := eI) (v := p_38.2.1) rfl)) (fun (d50 : Dr) => (jxa_cons (jx_bin (ea := eI) (eb := eI) (ec := eI) (fun x y => some (x + y)) o_add (jx_e (JE.of (je_bin (ea := eI) (eb := eI) (ec := eI) (fun x y => some (x + y)) o_add (JE.v (je_var (ea := eI) (v := p_38.2.1) rfl)) (JE.v (je_cst (ea := eI) (v := 1) rfl))) rfl)) (fun (d51 : Dr) => (jx_nxt (nx_at _ (by omega)) rfl hkd rfl hS (jx_e (je_cst (ea := eI) (v := 9) rfl))))) (fun (d53 : Dr) => (jxa_cons (jx_bin (ea := eI) (eb := eI) (ec := eI) (fun x y => some (x + y)) o_add (jx_e (je_cst (ea := eI) (v := 1) rfl)) (fun (d54 : Dr) => (jx_nxt (nx_at _ (by omega)) rfl hkd rfl hS (jx_e (je_cst (ea := eI) (v := 2) rfl))))) (fun (d56 : Dr) => jxa_nil)))))))))))) (fun v => (v.1, v.2.1, v.2.2.1, v.2.2.2.1, v.2.2.2.2.1, v.2.2.2.2.2.1)) (fun _ => rfl)) (fun found_45 d57 => (js_ctx (C' := (CB S kd [.rf kd, .no, .ow (.lst (List.map (eP6 eT1 eT1 eT1 eI eI eI) found_45) false), .va (eT1 ride_33), .va (eI p_38.1), .va (eI p_38.2.1), .va (eI other_40), .no] d57)) rfl (js_wk (c' := [.rf kd, .no, .ow (.lst (List.map (eP6 eT1 eT1 eT1 eI eI eI) found_45) false), .no, .no, .no, .no, .no]) (.cons (.eq _) (.cons (.no _) (.cons (.eq _) (.cons (.no _) (.cons (.no _) (.cons (.no _) (.cons (.no _) (.cons (.no _) .nil)))))))) (js_ctx (C' := (CB S kd [.rf kd, .no, .ow (.lst (List.map (eP6 eT1 eT1 eT1 eI eI eI) found_45) false), .no, .no, .no, .no, .no] d57)) rfl (js_endN (L := (fun st29 : Dr × (List (SO × SO × SO × Int × Int × Int)) => (CB S kd [.rf kd, .no, .ow (.lst (List.map (eP6 eT1 eT1 eT1 eI eI eI) st29.2) false), .no, .no, .no, .no, .no] st29.1))) (d57, found_45) (.cons (.eq _) (.cons (.no _) (.cons (.eq _) (.cons (.no _) (.cons (.no _) (.cons (.no _) (.cons (.no _) (.cons (.no _) .nil)))))))) rfl))))))))))) rfl)) (fun st29 => (js_retX' (C := (CB S kd [.rf kd, .no, .ow (.lst (List.map (eP6 eT1 eT1 eT1 eI eI eI) st29.2) false), .no, .no, .no, .no, .no])) (jx_e (JE.of (je_blt (fun x => some x) o_tupL (jv_ow (ea := (eL (eP6 eT1 eT1 eT1 eI eI eI))) (v := st29.2) rfl rfl)) rfl))))))))) rfl
theorem m__law_rides (k : Nat) (hk : 2 ≤ k) : FnX (F k) 12 (fun v : Int × Unit => [eI v.1]) (fun v => f__law_rides v.1) (eT (eP6 eT1 eT1 eT1 eI eI eI)) := match k, hk with
  | k + 1, hk => fnX_of (g__law_rides k) fun S kd d v hkd hS => t__law_rides k (by omega) S kd d hkd hS v.1
def f__law_true (rides : (List (SO × SO × SO × Int × Int × Int))) (change : Int) (delays : (List (SO × Int))) (patience : Int) : (Option (List (SO × (Int × Int)))) :=
  (let p_1 : (List (SO × (Int × Int))) × (List (SO × Int)) × Unit := (([] : List (SO × (Int × Int))), (mkM delays), ()); (Option.bind (forN (fun (x24 : (Int × SO)) (st23 : (List (SO × (Int × Int)))) => (Option.bind (atI (List.map (fun (ride_26 : (SO × SO × SO × Int × Int × Int)) => ride_26) (List.filter (fun (ride_26 : (SO × SO × SO × Int × Int × Int)) => (decide (ride_26.1 = x24.2))) rides)) (0 : Int)) fun own_25 => (let times_27 : (List Int) := [(x24.1 + (Option.getD (getM p_1.2.1 x24.2) (0 : Int)))]; (Option.bind (forN (fun (other_36 : (SO × SO × SO × Int × Int × Int)) (st35 : (List Int)) => (Option.bind (if (decide (other_36.2.2.1 = own_25.2.1)) = true then (if ((decide (change ≤ (x24.1 - other_36.2.2.2.2.1))) && (decide ((x24.1 - other_36.2.2.2.2.1) ≤ (30 : Int)))) = true then (Option.bind (Option.bind (Option.map (fun (v : (Int × Int)) => v.2) (getM st23 other_36.1)) fun x46 => (some (x46 + change))) fun x48 => (some (decide (x48 ≤ (x24.1 + patience))))) else some false) else some false) fun b56 => (if b56 = true then (Option.bind (Option.bind (Option.map (fun (v : (Int × Int)) => v.2) (getM st23 other_36.1)) fun x53 => (some (x53 + change))) fun y55 => (Option.bind (pshO st35 y55) fun times_52 => (some times_52))) else (some st35)))) rides times_27) fun st35 => (Option.bind (Option.bind (maxO st35) fun y41 => (Option.bind (Option.bind (Option.bind (maxO st35) fun y38 => (some (own_25.2.2.2.2.1 + y38))) fun x39 => (some (x39 - x24.1))) fun y42 => (some (y41, y42)))) fun y44 => (Option.bind (putO st23 x24.2 y44) fun found_43 => (some found_43))))))) (srt (ltP2 ltI ltS) (List.map (fun (ride_22 : (SO × SO × SO × Int × Int × Int)) => (ride_22.2.2.2.1, ride_22.1)) rides)) p_1.1) fun st23 => (some st23)))
theorem t__law_true (k : Nat) (hk : 0 ≤ k) (S : Sto) (hS : S.all Ob.flat = true) (rides : (List (SO × SO × SO × Int × Int × Int))) (change : Int) (delays : (List (SO × Int))) (patience : Int) : JG (F k) gam (startC S [(true, (eT (eP6 eT1 eT1 eT1 eI eI eI)) rides), (true, eI change), (true, (eT (eP2 eT1 eI)) delays), (true, eI patience)] 12) b__law_true (semR (eM eT1 (eP2 eI eI)) fun _ => S) (f__law_true rides change delays patience) :=
  JG.of (js_ctx (C' := (⟨S, [.va ((eT (eP6 eT1 eT1 eT1 eI eI eI)) rides), .va (eI change), .va ((eT (eP2 eT1 eI)) delays), .va (eI patience), .no, .no, .no, .no, .no, .no, .no, .no]⟩ : Ct)) rfl (js_par (JP.of (t' := some (([] : List (SO × (Int × Int))), (mkM delays), ())) (jp_newM (JE.of (je_dnew (ek := eT1) (ev' := (eP2 eI eI))) rfl) (jp_va (JE.of (je_blt (fun x => some (mkM x)) (o_dictT key_S) (JE.v (je_var (ea := (eT (eP2 eT1 eI))) (v := delays) rfl))) rfl) jp_nil)) rfl) (fun p_1 => (js_ctx (C' := (⟨S, [.va ((eT (eP6 eT1 eT1 eT1 eI eI eI)) rides), .va (eI change), .va ((eT (eP2 eT1 eI)) delays), .va (eI patience), .ow (.dic (List.map (kvE eT1 (eP2 eI eI)) p_1.1) false false), .va ((eM eT1 eI) p_1.2.1), .no, .no, .no, .no, .no, .no]⟩ : Ct)) rfl (js_wk (c' := [.va ((eT (eP6 eT1 eT1 eT1 eI eI eI)) rides), .va (eI change), .no, .va (eI patience), .ow (.dic (List.map (kvE eT1 (eP2 eI eI)) p_1.1) false false), .va ((eM eT1 eI) p_1.2.1), .no, .no, .no, .no, .no, .no]) (.cons (.eq _) (.cons (.eq _) (.cons (.no _) (.cons (.eq _) (.cons (.eq _) (.cons (.eq _) (.cons (.no _) (.cons (.no _) (.cons (.no _) (.cons (.no _) (.cons (.no _) (.cons (.no _) .nil)))))))))))) (js_ctx (C' := (⟨S, [.va ((eT (eP6 eT1 eT1 eT1 eI eI eI)) rides), .va (eI change), .no, .va (eI patience), .ow (.dic (List.map (kvE eT1 (eP2 eI eI)) p_1.1) false false), .va ((eM eT1 eI) p_1.2.1), .no, .no, .no, .no, .no, .no]⟩ : Ct)) rfl (js_forN (L := (fun st23 : (List (SO × (Int × Int))) => (⟨S, [.va ((eT (eP6 eT1 eT1 eT1 eI eI eI)) rides), .va (eI change), .no, .va (eI patience), .ow (.dic (List.map (kvE eT1 (eP2 eI eI)) st23) false false), .va ((eM eT1 eI) p_1.2.1), .no, .no, .no, .no, .no, .no]⟩ : Ct))) (C' := (fun (x24 : (Int × SO)) (st23 : (List (SO × (Int × Int)))) => (⟨S, [.va ((eT (eP6 eT1 eT1 eT1 eI eI eI)) rides), .va (eI change), .no, .va (eI patience), .ow (.dic (List.map (kvE eT1 (eP2 eI eI)) st23) false false), .va ((eM eT1 eI) p_1.2.1), .va (eI x24.1), .va (eT1 x24.2), .no, .no, .no, .no]⟩ : Ct))) (s0 := p_1.1) (f := (fun (x24 : (Int × SO)) (st23 : (List (SO × (Int × Int)))) => (Option.bind (atI (List.map (fun (ride_26 : (SO × SO × SO × Int × Int × Int)) => ride_26) (List.filter (fun (ride_26 : (SO × SO × SO × Int × Int × Int)) => (decide (ride_26.1 = x24.2))) rides)) (0 : Int)) fun own_25 => (let times_27 : (List Int) := [(x24.1 + (Option.getD (getM p_1.2.1 x24.2) (0 : Int)))]; (Option.bind (forN (fun (other_36 : (SO × SO × SO × Int × Int × Int)) (st35 : (List Int)) => (Option.bind (if (decide (other_36.2.2.1 = own_25.2.1)) = true then (if ((decide (change ≤ (x24.1 - other_36.2.2.2.2.1))) && (decide ((x24.1 - other_36.2.2.2.2.1) ≤ (30 : Int)))) = true then (Option.bind (Option.bind (Option.map (fun (v : (Int × Int)) => v.2) (getM st23 other_36.1)) fun x46 => (some (x46 + change))) fun x48 => (some (decide (x48 ≤ (x24.1 + patience))))) else some false) else some false) fun b56 => (if b56 = true then (Option.bind (Option.bind (Option.map (fun (v : (Int × Int)) => v.2) (getM st23 other_36.1)) fun x53 => (some (x53 + change))) fun y55 => (Option.bind (pshO st35 y55) fun times_52 => (some times_52))) else (some st35)))) rides times_27) fun st35 => (Option.bind (Option.bind (maxO st35) fun y41 => (Option.bind (Option.bind (Option.bind (maxO st35) fun y38 => (some (own_25.2.2.2.2.1 + y38))) fun x39 => (some (x39 - x24.1))) fun y42 => (some (y41, y42)))) fun y44 => (Option.bind (putO st23 x24.2 y44) fun found_43 => (some found_43)))))))) (JI0.of (t' := (some (srt (ltP2 ltI ltS) (List.map (fun (ride_22 : (SO × SO × SO × Int × Int × Int)) => (ride_22.2.2.2.1, ride_22.1)) rides)))) (ji_seq0 (fun v => v) (fun _ => .inl rfl) (JE.of (je_blt (fun x => some (srt (ltP2 ltI ltS) x)) (o_sort (lt_P2 lt_I eq_I lt_S eq_S) (by decide) (.inl fun _ => rfl)) (JE.v (JE.of (je_mapT (C' := (fun ride_22 : (SO × SO × SO × Int × Int × Int) => (⟨S, [.va ((eT (eP6 eT1 eT1 eT1 eI eI eI)) rides), .va (eI change), .no, .va (eI patience), .ow (.dic (List.map (kvE eT1 (eP2 eI eI)) p_1.1) false false), .va ((eM eT1 eI) p_1.2.1), .no, .no, .no, .no, .no, .va ((eP6 eT1 eT1 eT1 eI eI eI) ride_22)]⟩ : Ct))) (g := fun (ride_22 : (SO × SO × SO × Int × Int × Int)) => (ride_22.2.2.2.1, ride_22.1)) (JI0.i (JI0.of (t' := (some rides)) (ji_seq0 (fun v => v) (fun _ => .inr rfl) (je_var (ea := (eT (eP6 eT1 eT1 eT1 eI eI eI))) (v := rides) rfl)) rfl)) (fun ride_22 => (jb_nm 11 _)) (fun ride_22 => (JE.of (je_tup (ec := (eP2 eI eT1)) (ja_cons (JE.of (je_at (ec := eI) (fun v => v.2.2.2.1) (fun _ => rfl) (JE.v (je_var (ea := (eP6 eT1 eT1 eT1 eI eI eI)) (v := ride_22) rfl)) (JE.of (je_cst (ea := eI) (v := 3) rfl) rfl)) rfl) (ja_cons (JE.of (je_at (ec := eT1) (fun v => v.1) (fun _ => rfl) (JE.v (je_var (ea := (eP6 eT1 eT1 eT1 eI eI eI)) (v := ride_22) rfl)) (JE.of (je_cst (ea := eI) (v := 0) rfl) rfl)) rfl) ja_nil)) (fun v => (v.1, v.2.1)) (fun _ => ⟨rfl, rfl⟩)) rfl))) rfl))) rfl)) rfl) (.cons (.eq _) (.cons (.eq _) (.cons (.no _) (.cons (.eq _) (.cons (.eq _) (.cons (.eq _) (.cons (.no _) (.cons (.no _) (.cons (.no _) (.cons (.no _) (.cons (.no _) (.cons (.no _) .nil)))))))))))) rfl (fun _ => rfl) (fun x24 st23 => (jb_tp [eI x24.1, eT1 x24.2] rfl rfl (jbs_cons (jb_nm 6 _) (jbs_cons (jb_nm 7 _) jbs_nil)))) (fun x24 st23 => (JG.of (js_asg (C' := fun own_25 => (⟨S, [.va ((eT (eP6 eT1 eT1 eT1 eI eI eI)) rides), .va (eI change), .no, .va (eI patience), .ow (.dic (List.map (kvE eT1 (eP2 eI eI)) st23) false false), .va ((eM eT1 eI) p_1.2.1), .va (eI x24.1), .va (eT1 x24.2), .va ((eP6 eT1 eT1 eT1 eI eI eI) own_25), .no, .no, .no]⟩ : Ct)) (JE.of (t' := (atI (List.map (fun (ride_26 : (SO × SO × SO × Int × Int × Int)) => ride_26) (List.filter (fun (ride_26 : (SO × SO × SO × Int × Int × Int)) => (decide (ride_26.1 = x24.2))) rides)) (0 : Int))) (je_ix (fun x y => atI x y) o_ixL (JE.v (JE.of (je_filT (C' := (fun ride_26 : (SO × SO × SO × Int × Int × Int) => (⟨S, [.va ((eT (eP6 eT1 eT1 eT1 eI eI eI)) rides), .va (eI change), .no, .va (eI patience), .ow (.dic (List.map (kvE eT1 (eP2 eI eI)) st23) false false), .va ((eM eT1 eI) p_1.2.1), .va (eI x24.1), .va (eT1 x24.2), .no, .no, .no, .va ((eP6 eT1 eT1 eT1 eI eI eI) ride_26)]⟩ : Ct))) (p := fun (ride_26 : (SO × SO × SO × Int × Int × Int)) => (decide (ride_26.1 = x24.2))) (g := fun (ride_26 : (SO × SO × SO × Int × Int × Int)) => ride_26) (JI0.i (JI0.of (t' := (some rides)) (ji_seq0 (fun v => v) (fun _ => .inr rfl) (je_var (ea := (eT (eP6 eT1 eT1 eT1 eI eI eI))) (v := rides) rfl)) rfl)) (fun ride_26 => (jb_nm 11 _)) (fun ride_26 => (JT.of (jt_b (JE.of (je_cmp (fun x y => some (decide (x = y))) (fun x y z h => by rw [o_eq eq_S (by decide)]; exact h) (JE.v (JE.of (je_at (ec := eT1) (fun v => v.1) (fun _ => rfl) (JE.v (je_var (ea := (eP6 eT1 eT1 eT1 eI eI eI)) (v := ride_26) rfl)) (JE.of (je_cst (ea := eI) (v := 0) rfl) rfl)) rfl)) (JE.v (je_var (ea := eT1) (v := x24.2) rfl))) rfl)) rfl)) (fun ride_26 => (je_var (ea := (eP6 eT1 eT1 eT1 eI eI eI)) (v := ride_26) rfl))) rfl)) (JE.v (je_cst (ea := eI) (v := 0) rfl))) (by simp only [ob1, ob2, ob3, ob4])) (fun _ => jb_nm 8 _) (fun own_25 => (js_new (JE.of (t' := (some [(x24.1 + (Option.getD (getM p_1.2.1 x24.2) (0 : Int)))])) (je_lst (ec := (eL eI)) (ja_cons (JE.of (je_bin (ea := eI) (eb := eI) (ec := eI) (fun x y => some (x + y)) o_add (JE.v (je_var (ea := eI) (v := x24.1) rfl)) (JE.v (JE.of (je_dgetd key_S (JE.v (je_var (ea := (eM eT1 eI)) (v := p_1.2.1) rfl)) (je_var (ea := eT1) (v := x24.2) rfl) (je_cst (ea := eI) (v := 0) rfl)) rfl))) rfl) ja_nil) (fun v => [v.1]) (fun _ => ⟨rfl, rfl⟩)) rfl) (fun times_27 => (js_ctx (C' := (⟨S, [.va ((eT (eP6 eT1 eT1 eT1 eI eI eI)) rides), .va (eI change), .no, .va (eI patience), .ow (.dic (List.map (kvE eT1 (eP2 eI eI)) st23) false false), .va ((eM eT1 eI) p_1.2.1), .va (eI x24.1), .va (eT1 x24.2), .va ((eP6 eT1 eT1 eT1 eI eI eI) own_25), .ow (.lst (List.map eI times_27) false), .no, .no]⟩ : Ct)) rfl (js_forN (L := (fun st35 : (List Int) => (⟨S, [.va ((eT (eP6 eT1 eT1 eT1 eI eI eI)) rides), .va (eI change), .no, .va (eI patience), .ow (.dic (List.map (kvE eT1 (eP2 eI eI)) st23) false false), .va ((eM eT1 eI) p_1.2.1), .va (eI x24.1), .va (eT1 x24.2), .va ((eP6 eT1 eT1 eT1 eI eI eI) own_25), .ow (.lst (List.map eI st35) false), .no, .no]⟩ : Ct))) (C' := (fun (other_36 : (SO × SO × SO × Int × Int × Int)) (st35 : (List Int)) => (⟨S, [.va ((eT (eP6 eT1 eT1 eT1 eI eI eI)) rides), .va (eI change), .no, .va (eI patience), .ow (.dic (List.map (kvE eT1 (eP2 eI eI)) st23) false false), .va ((eM eT1 eI) p_1.2.1), .va (eI x24.1), .va (eT1 x24.2), .va ((eP6 eT1 eT1 eT1 eI eI eI) own_25), .ow (.lst (List.map eI st35) false), .va ((eP6 eT1 eT1 eT1 eI eI eI) other_36), .no]⟩ : Ct))) (s0 := times_27) (f := (fun (other_36 : (SO × SO × SO × Int × Int × Int)) (st35 : (List Int)) => (Option.bind (if (decide (other_36.2.2.1 = own_25.2.1)) = true then (if ((decide (change ≤ (x24.1 - other_36.2.2.2.2.1))) && (decide ((x24.1 - other_36.2.2.2.2.1) ≤ (30 : Int)))) = true then (Option.bind (Option.bind (Option.map (fun (v : (Int × Int)) => v.2) (getM st23 other_36.1)) fun x46 => (some (x46 + change))) fun x48 => (some (decide (x48 ≤ (x24.1 + patience))))) else some false) else some false) fun b56 => (if b56 = true then (Option.bind (Option.bind (Option.map (fun (v : (Int × Int)) => v.2) (getM st23 other_36.1)) fun x53 => (some (x53 + change))) fun y55 => (Option.bind (pshO st35 y55) fun times_52 => (some times_52))) else (some st35))))) (JI0.of (t' := (some rides)) (ji_seq0 (fun v => v) (fun _ => .inr rfl) (je_var (ea := (eT (eP6 eT1 eT1 eT1 eI eI eI))) (v := rides) rfl)) rfl) (.cons (.eq _) (.cons (.eq _) (.cons (.no _) (.cons (.eq _) (.cons (.eq _) (.cons (.eq _) (.cons (.eq _) (.cons (.eq _) (.cons (.eq _) (.cons (.eq _) (.cons (.no _) (.cons (.no _) .nil)))))))))))) rfl (fun _ => rfl) (fun other_36 st35 => (jb_nm 10 _)) (fun other_36 st35 => (JG.of (js_ifl (JT.of (t' := (if (decide (other_36.2.2.1 = own_25.2.1)) = true then (if ((decide (change ≤ (x24.1 - other_36.2.2.2.2.1))) && (decide ((x24.1 - other_36.2.2.2.2.1) ≤ (30 : Int)))) = true then (Option.bind (Option.bind (Option.map (fun (v : (Int × Int)) => v.2) (getM st23 other_36.1)) fun x46 => (some (x46 + change))) fun x48 => (some (decide (x48 ≤ (x24.1 + patience))))) else some false) else some false)) (jt_and (JT.of (jt_b (JE.of (je_cmp (fun x y => some (decide (x = y))) (fun x y z h => by rw [o_eq eq_S (by decide)]; exact h) (JE.v (JE.of (je_at (ec := eT1) (fun v => v.2.2.1) (fun _ => rfl) (JE.v (je_var (ea := (eP6 eT1 eT1 eT1 eI eI eI)) (v := other_36) rfl)) (JE.of (je_cst (ea := eI) (v := 2) rfl) rfl)) rfl)) (JE.v (JE.of (je_at (ec := eT1) (fun v => v.2.1) (fun _ => rfl) (JE.v (je_var (ea := (eP6 eT1 eT1 eT1 eI eI eI)) (v := own_25) rfl)) (JE.of (je_cst (ea := eI) (v := 1) rfl) rfl)) rfl))) rfl)) rfl) (JT.of (t' := (if ((decide (change ≤ (x24.1 - other_36.2.2.2.2.1))) && (decide ((x24.1 - other_36.2.2.2.2.1) ≤ (30 : Int)))) = true then (Option.bind (Option.bind (Option.map (fun (v : (Int × Int)) => v.2) (getM st23 other_36.1)) fun x46 => (some (x46 + change))) fun x48 => (some (decide (x48 ≤ (x24.1 + patience))))) else some false)) (jt_and (JT.of (jt_b (JE.of (je_chnT (fun x y => (decide (x ≤ y))) (fun x y => (decide (x ≤ y))) (fun x y => by rw [o_leI]) (fun x y => by rw [o_leI]) (JE.v (je_var (ea := eI) (v := change) rfl)) (JE.v (JE.of (je_bin (ea := eI) (eb := eI) (ec := eI) (fun x y => some (x - y)) o_sub (JE.v (je_var (ea := eI) (v := x24.1) rfl)) (JE.v (JE.of (je_at (ec := eI) (fun v => v.2.2.2.2.1) (fun _ => rfl) (JE.v (je_var (ea := (eP6 eT1 eT1 eT1 eI eI eI)) (v := other_36) rfl)) (JE.of (je_cst (ea := eI) (v := 4) rfl) rfl)) rfl))) rfl)) (JE.v (je_cst (ea := eI) (v := 30) rfl))) rfl)) rfl) (JT.of (t' := (Option.bind (Option.bind (Option.map (fun (v : (Int × Int)) => v.2) (getM st23 other_36.1)) fun x46 => (some (x46 + change))) fun x48 => (some (decide (x48 ≤ (x24.1 + patience)))))) (jt_and1 (JT.of (t' := (Option.bind (Option.bind (Option.map (fun (v : (Int × Int)) => v.2) (getM st23 other_36.1)) fun x46 => (some (x46 + change))) fun x48 => (some (decide (x48 ≤ (x24.1 + patience)))))) (jt_b (JE.of (t' := (Option.bind (Option.bind (Option.map (fun (v : (Int × Int)) => v.2) (getM st23 other_36.1)) fun x46 => (some (x46 + change))) fun x48 => (some (decide (x48 ≤ (x24.1 + patience)))))) (je_cmp (fun x y => some (decide (x ≤ y))) (fun x y z h => by rw [o_leI]; exact h) (JE.v (JE.of (t' := (Option.bind (Option.map (fun (v : (Int × Int)) => v.2) (getM st23 other_36.1)) fun x46 => (some (x46 + change)))) (je_bin (ea := eI) (eb := eI) (ec := eI) (fun x y => some (x + y)) o_add (JE.v (JE.of (t' := (Option.map (fun (v : (Int × Int)) => v.2) (getM st23 other_36.1))) (je_at (ec := eI) (fun v => v.2) (fun _ => rfl) (JE.v (JE.of (t' := (getM st23 other_36.1)) (je_ix (fun x y => getM x y) (o_get key_S) (jv_ow (ea := (eM eT1 (eP2 eI eI))) (v := st23) rfl rfl) (JE.v (JE.of (je_at (ec := eT1) (fun v => v.1) (fun _ => rfl) (JE.v (je_var (ea := (eP6 eT1 eT1 eT1 eI eI eI)) (v := other_36) rfl)) (JE.of (je_cst (ea := eI) (v := 0) rfl) rfl)) rfl))) (by simp only [ob1, ob2, ob3, ob4]))) (JE.of (je_cst (ea := eI) (v := 1) rfl) rfl)) (by simp only [ob1, ob2, ob3, ob4]))) (JE.v (je_var (ea := eI) (v := change) rfl))) (by simp only [ob1, ob2, ob3, ob4]))) (JE.v (JE.of (je_bin (ea := eI) (eb := eI) (ec := eI) (fun x y => some (x + y)) o_add (JE.v (je_var (ea := eI) (v := x24.1) rfl)) (JE.v (je_var (ea := eI) (v := patience) rfl))) rfl))) (by simp only [ob1, ob2, ob3, ob4]))) (by simp only [ob1, ob2, ob3, ob4]))) (by simp only [ob1, ob2, ob3, ob4]))) (by simp only [ob1, ob2, ob3, ob4]))) (by simp only [ob1, ob2, ob3, ob4])) (js_app (ea := eI) (xs := st35) rfl (JE.of (t' := (Option.bind (Option.map (fun (v : (Int × Int)) => v.2) (getM st23 other_36.1)) fun x53 => (some (x53 + change)))) (je_bin (ea := eI) (eb := eI) (ec := eI) (fun x y => some (x + y)) o_add (JE.v (JE.of (t' := (Option.map (fun (v : (Int × Int)) => v.2) (getM st23 other_36.1))) (je_at (ec := eI) (fun v => v.2) (fun _ => rfl) (JE.v (JE.of (t' := (getM st23 other_36.1)) (je_ix (fun x y => getM x y) (o_get key_S) (jv_ow (ea := (eM eT1 (eP2 eI eI))) (v := st23) rfl rfl) (JE.v (JE.of (je_at (ec := eT1) (fun v => v.1) (fun _ => rfl) (JE.v (je_var (ea := (eP6 eT1 eT1 eT1 eI eI eI)) (v := other_36) rfl)) (JE.of (je_cst (ea := eI) (v := 0) rfl) rfl)) rfl))) (by simp only [ob1, ob2, ob3, ob4]))) (JE.of (je_cst (ea := eI) (v := 1) rfl) rfl)) (by simp only [ob1, ob2, ob3, ob4]))) (JE.v (je_var (ea := eI) (v := change) rfl))) (by simp only [ob1, ob2, ob3, ob4])) (fun times_52 => (js_ctx (C' := (⟨S, [.va ((eT (eP6 eT1 eT1 eT1 eI eI eI)) rides), .va (eI change), .no, .va (eI patience), .ow (.dic (List.map (kvE eT1 (eP2 eI eI)) st23) false false), .va ((eM eT1 eI) p_1.2.1), .va (eI x24.1), .va (eT1 x24.2), .va ((eP6 eT1 eT1 eT1 eI eI eI) own_25), .ow (.lst (List.map eI times_52) false), .va ((eP6 eT1 eT1 eT1 eI eI eI) other_36), .no]⟩ : Ct)) rfl (js_wk (c' := [.va ((eT (eP6 eT1 eT1 eT1 eI eI eI)) rides), .va (eI change), .no, .va (eI patience), .ow (.dic (List.map (kvE eT1 (eP2 eI eI)) st23) false false), .va ((eM eT1 eI) p_1.2.1), .va (eI x24.1), .va (eT1 x24.2), .va ((eP6 eT1 eT1 eT1 eI eI eI) own_25), .ow (.lst (List.map eI times_52) false), .no, .no]) (.cons (.eq _) (.cons (.eq _) (.cons (.no _) (.cons (.eq _) (.cons (.eq _) (.cons (.eq _) (.cons (.eq _) (.cons (.eq _) (.cons (.eq _) (.cons (.eq _) (.cons (.no _) (.cons (.no _) .nil)))))))))))) (js_ctx (C' := (⟨S, [.va ((eT (eP6 eT1 eT1 eT1 eI eI eI)) rides), .va (eI change), .no, .va (eI patience), .ow (.dic (List.map (kvE eT1 (eP2 eI eI)) st23) false false), .va ((eM eT1 eI) p_1.2.1), .va (eI x24.1), .va (eT1 x24.2), .va ((eP6 eT1 eT1 eT1 eI eI eI) own_25), .ow (.lst (List.map eI times_52) false), .no, .no]⟩ : Ct)) rfl (js_endN (L := (fun st35 : (List Int) => (⟨S, [.va ((eT (eP6 eT1 eT1 eT1 eI eI eI)) rides), .va (eI change), .no, .va (eI patience), .ow (.dic (List.map (kvE eT1 (eP2 eI eI)) st23) false false), .va ((eM eT1 eI) p_1.2.1), .va (eI x24.1), .va (eT1 x24.2), .va ((eP6 eT1 eT1 eT1 eI eI eI) own_25), .ow (.lst (List.map eI st35) false), .no, .no]⟩ : Ct))) times_52 (.cons (.eq _) (.cons (.eq _) (.cons (.no _) (.cons (.eq _) (.cons (.eq _) (.cons (.eq _) (.cons (.eq _) (.cons (.eq _) (.cons (.eq _) (.cons (.eq _) (.cons (.no _) (.cons (.no _) .nil)))))))))))) rfl)))))) (js_endN (L := (fun st35 : (List Int) => (⟨S, [.va ((eT (eP6 eT1 eT1 eT1 eI eI eI)) rides), .va (eI change), .no, .va (eI patience), .ow (.dic (List.map (kvE eT1 (eP2 eI eI)) st23) false false), .va ((eM eT1 eI) p_1.2.1), .va (eI x24.1), .va (eT1 x24.2), .va ((eP6 eT1 eT1 eT1 eI eI eI) own_25), .ow (.lst (List.map eI st35) false), .no, .no]⟩ : Ct))) st35 (.cons (.eq _) (.cons (.eq _) (.cons (.no _) (.cons (.eq _) (.cons (.eq _) (.cons (.eq _) (.cons (.eq _) (.cons (.eq _) (.cons (.eq _) (.cons (.eq _) (.cons (.no _) (.cons (.no _) .nil)))))))))))) rfl)) rfl)) (fun st35 => (js_put (ek := eT1) (ev' := (eP2 eI eI)) (xs := st23) key_S rfl (JE.of (t' := (Option.bind (maxO st35) fun y41 => (Option.bind (Option.bind (Option.bind (maxO st35) fun y38 => (some (own_25.2.2.2.2.1 + y38))) fun x39 => (some (x39 - x24.1))) fun y42 => (some (y41, y42))))) (je_tup (ec := (eP2 eI eI)) (ja_cons (JE.of (t' := (maxO st35)) (je_blt (fun x => maxO x) o_max (jv_ow (ea := (eL eI)) (v := st35) rfl rfl)) (by simp only [ob1, ob2, ob3, ob4])) (ja_cons (JE.of (t' := (Option.bind (Option.bind (maxO st35) fun y38 => (some (own_25.2.2.2.2.1 + y38))) fun x39 => (some (x39 - x24.1)))) (je_bin (ea := eI) (eb := eI) (ec := eI) (fun x y => some (x - y)) o_sub (JE.v (JE.of (t' := (Option.bind (maxO st35) fun y38 => (some (own_25.2.2.2.2.1 + y38)))) (je_bin (ea := eI) (eb := eI) (ec := eI) (fun x y => some (x + y)) o_add (JE.v (JE.of (je_at (ec := eI) (fun v => v.2.2.2.2.1) (fun _ => rfl) (JE.v (je_var (ea := (eP6 eT1 eT1 eT1 eI eI eI)) (v := own_25) rfl)) (JE.of (je_cst (ea := eI) (v := 4) rfl) rfl)) rfl)) (JE.v (JE.of (t' := (maxO st35)) (je_blt (fun x => maxO x) o_max (jv_ow (ea := (eL eI)) (v := st35) rfl rfl)) (by simp only [ob1, ob2, ob3, ob4])))) (by simp only [ob1, ob2, ob3, ob4]))) (JE.v (je_var (ea := eI) (v := x24.1) rfl))) (by simp only [ob1, ob2, ob3, ob4])) ja_nil)) (fun v => (v.1, v.2.1)) (fun _ => ⟨rfl, rfl⟩)) (by simp only [ob1, ob2, ob3, ob4])) (JE.of (t' := (some x24.2)) (je_var (ea := eT1) (v := x24.2) rfl) rfl) (fun found_43 => (js_ctx (C' := (⟨S, [.va ((eT (eP6 eT1 eT1 eT1 eI eI eI)) rides), .va (eI change), .no, .va (eI patience), .ow (.dic (List.map (kvE eT1 (eP2 eI eI)) found_43) false false), .va ((eM eT1 eI) p_1.2.1), .va (eI x24.1), .va (eT1 x24.2), .va ((eP6 eT1 eT1 eT1 eI eI eI) own_25), .ow (.lst (List.map eI st35) false), .no, .no]⟩ : Ct)) rfl (js_wk (c' := [.va ((eT (eP6 eT1 eT1 eT1 eI eI eI)) rides), .va (eI change), .no, .va (eI patience), .ow (.dic (List.map (kvE eT1 (eP2 eI eI)) found_43) false false), .va ((eM eT1 eI) p_1.2.1), .no, .no, .no, .no, .no, .no]) (.cons (.eq _) (.cons (.eq _) (.cons (.no _) (.cons (.eq _) (.cons (.eq _) (.cons (.eq _) (.cons (.no _) (.cons (.no _) (.cons (.no _) (.cons (.no _) (.cons (.no _) (.cons (.no _) .nil)))))))))))) (js_ctx (C' := (⟨S, [.va ((eT (eP6 eT1 eT1 eT1 eI eI eI)) rides), .va (eI change), .no, .va (eI patience), .ow (.dic (List.map (kvE eT1 (eP2 eI eI)) found_43) false false), .va ((eM eT1 eI) p_1.2.1), .no, .no, .no, .no, .no, .no]⟩ : Ct)) rfl (js_endN (L := (fun st23 : (List (SO × (Int × Int))) => (⟨S, [.va ((eT (eP6 eT1 eT1 eT1 eI eI eI)) rides), .va (eI change), .no, .va (eI patience), .ow (.dic (List.map (kvE eT1 (eP2 eI eI)) st23) false false), .va ((eM eT1 eI) p_1.2.1), .no, .no, .no, .no, .no, .no]⟩ : Ct))) found_43 (.cons (.eq _) (.cons (.eq _) (.cons (.no _) (.cons (.eq _) (.cons (.eq _) (.cons (.eq _) (.cons (.no _) (.cons (.no _) (.cons (.no _) (.cons (.no _) (.cons (.no _) (.cons (.no _) .nil)))))))))))) rfl))))))))))))) rfl)) (fun st23 => (js_retV (er := (eM eT1 (eP2 eI eI))) (x := st23) rfl (.inl ⟨_, rfl, rfl⟩)))))))))) rfl
theorem m__law_true (k : Nat) (hk : 1 ≤ k) : FnT (F k) 13 (fun v : (List (SO × SO × SO × Int × Int × Int)) × Int × (List (SO × Int)) × Int × Unit => [(true, (eT (eP6 eT1 eT1 eT1 eI eI eI)) v.1), (true, eI v.2.1), (true, (eT (eP2 eT1 eI)) v.2.2.1), (true, eI v.2.2.2.1)]) (fun v => f__law_true v.1 v.2.1 v.2.2.1 v.2.2.2.1) (eM eT1 (eP2 eI eI)) := match k, hk with
  | k + 1, hk => fn_of (g__law_true k) fun S v hS => t__law_true k (by omega) S hS v.1 v.2.1 v.2.2.1 v.2.2.2.1
def f_law (d0 : Dr) : Option (Bool × Dr) :=
  (Option.bind (Option.bind (Option.bind (Option.bind (some ((5 : Int), d0)) fun p => Option.map (fun (q : (Unit) × Dr) => ((p.1, q.1), q.2)) ((fun (d2 : Dr) => (some ((), d2))) p.2)) fun p => f__law_rides p.1.1 p.2) fun p => Option.map (fun (q : (Int × Int × Unit) × Dr) => ((p.1, q.1), q.2)) ((fun (d3 : Dr) => (Option.bind (Nx d3 (4 : Int)) fun p => Option.map (fun (q : (Int × Unit) × Dr) => ((p.1, q.1), q.2)) ((fun (d5 : Dr) => (Option.bind (Nx d5 (12 : Int)) fun p => Option.map (fun (q : (Unit) × Dr) => ((p.1, q.1), q.2)) ((fun (d7 : Dr) => (Option.map (fun v => (v, d7)) (some ()))) p.2))) p.2))) p.2)) fun p => (fun (p_8 : (List (SO × SO × SO × Int × Int × Int)) × Int × Int × Unit) (d9 : Dr) => (Option.bind (Option.bind (Option.bind (some (p_8.1, d9)) fun q => filX (fun (x13 : (SO × SO × SO × Int × Int × Int)) (d14 : Dr) => (Option.bind (Nx d14 (3 : Int)) fun p => Option.bind ((fun (d20 : Dr) => (some ((0 : Int), d20))) p.2) fun q => Option.map (fun z => (z, q.2)) (some (decide (p.1 = q.1))))) (fun (x13 : (SO × SO × SO × Int × Int × Int)) (d14 : Dr) => (Option.map (fun (p : (SO × Int × Unit) × Dr) => ((fun v => (v.1, v.2.1)) p.1, p.2)) (Option.bind (some (x13.1, d14)) fun p => Option.map (fun (q : (Int × Unit) × Dr) => ((p.1, q.1), q.2)) ((fun (d16 : Dr) => (Option.bind (Option.bind (some ((1 : Int), d16)) fun p => Option.bind ((fun (d17 : Dr) => (Nx d17 (15 : Int))) p.2) fun q => Option.map (fun z => (z, q.2)) (some (p.1 + q.1))) fun p => Option.map (fun (q : (Unit) × Dr) => ((p.1, q.1), q.2)) ((fun (d19 : Dr) => (some ((), d19))) p.2))) p.2)))) q.1 q.2) fun p => Option.map (fun z => (z, p.2)) (some p.1)) fun p => (fun (delays_10 : (List (SO × Int))) (d22 : Dr) => (Option.bind (Option.map (fun x => (!decide (x = true))) (f_are_delays_vT p_8.1 delays_10)) fun b77 => (if b77 = true then (some (false, d22)) else (Option.bind (Option.bind (f__law_true p_8.1 p_8.2.1 delays_10 p_8.2.2.1) fun y24 => (some (y24, ([] : List (SO × SO)), ()))) fun p_23 => (ouK (forO (fun (ride_36 : (SO × SO × SO × Int × Int × Int)) (st35 : (List (SO × SO))) => (let near_64 : (List SO) := (List.map (fun (other_65 : (SO × SO × SO × Int × Int × Int)) => other_65.1) (List.filter (fun (other_65 : (SO × SO × SO × Int × Int × Int)) => ((decide (other_65.2.2.1 = ride_36.2.1)) && ((decide (p_8.2.1 ≤ (ride_36.2.2.2.1 - other_65.2.2.2.2.1))) && (decide ((ride_36.2.2.2.1 - other_65.2.2.2.2.1) ≤ (30 : Int)))))) p_8.1)); (Option.bind (Option.map (fun x => !x) (Option.bind (f_met_by p_8.1 p_8.2.1 ride_36.1) fun x66 => (sameO (eL eT1) 2 x66 near_64))) fun b76 => (if b76 = true then (Option.map .rt (some (false, d22))) else (Option.bind (Option.bind (filO (fun (name_69 : SO) => (Option.bind (Option.bind (Option.map (fun (v : (Int × Int)) => v.1) (getM p_23.1 ride_36.1)) fun x70 => (Option.bind (Option.map (fun (v : (Int × Int)) => v.2) (getM p_23.1 name_69)) fun y71 => (some (x70 - y71)))) fun x72 => (some (decide (x72 < p_8.2.1))))) (fun (name_69 : SO) => (some (ride_36.1, name_69))) near_64) fun y75 => (appO st35 y75)) fun rows_68 => (some (.nx rows_68))))))) p_8.1 p_23.2.1) id fun st35 => (Option.bind (Option.bind (Option.map (fun x => !x) (Option.bind (f_true_times p_8.1 p_8.2.1 delays_10 p_8.2.2.1) fun x40 => (Option.bind (mapO (fun (ride_37 : (SO × SO × SO × Int × Int × Int)) => (Option.bind (getM p_23.1 ride_37.1) fun y39 => (some ((ride_37.1), y39.1, y39.2)))) p_8.1) fun y41 => (sameO (eL (eP3 eT1 eI eI)) 3 x40 y41)))) fun x44 => (if x44 = true then some true else (Option.map (fun x => !x) (Option.bind (f_missed p_8.1 p_8.2.1 delays_10 p_8.2.2.1) fun x42 => (sameO (eL (eP2 eT1 eT1)) 3 x42 st35))))) fun b63 => (if b63 = true then (some (false, d22)) else (Option.bind (Option.bind (Option.bind (f_true_times p_8.1 p_8.2.1 [] p_8.2.2.1) fun x46 => (some (!decide (x46 = (List.map (fun (ride_45 : (SO × SO × SO × Int × Int × Int)) => (ride_45.1, ride_45.2.2.2.1, ride_45.2.2.2.2.1)) p_8.1))))) fun x50 => (if x50 = true then some true else (Option.bind (f_missed p_8.1 p_8.2.1 [] p_8.2.2.1) fun x48 => (some (!decide (x48 = ([] : List (SO × SO)))))))) fun b62 => (if b62 = true then (some (false, d22)) else (Option.bind (if (!decide (p_8.1 = [])) = true then (Option.map (fun (v : (SO × SO × SO × Int × Int × Int)) => v.1) (atI p_8.1 (0 : Int))) else (some q_ra)) fun name_51 => (let wrong_53 : (List PyData) := [(eN ()), ((eL (eP2 eT1 eI)) [(name_51, (5 : Int))]), ((eP1 (eP1 eT1)) ((name_51))), ((eP1 (eP2 eT1 eI)) ((q_zz, (5 : Int)))), ((eP1 (eP2 eT1 eI)) ((name_51, (0 : Int)))), ((eP1 (eP2 eT1 eI)) ((name_51, (61 : Int)))), ((eP2 (eP2 eT1 eI) (eP2 eT1 eI)) ((name_51, (5 : Int)), (name_51, (5 : Int)))), ((eP2 (eP2 eT1 eI) (eP2 eT1 eI)) ((name_51, (5 : Int)), (name_51, (6 : Int))))]; (Option.map (fun (p : Bool × Dr) => (decide (p.1 = false), p.2)) (Option.bind (Option.bind (some (p_8.1, d22)) fun p => Option.map (fun (q : (PyData × Unit) × Dr) => ((p.1, q.1), q.2)) ((fun (d58 : Dr) => (Option.bind (Option.bind (some (wrong_53, d58)) fun p => Option.bind ((fun (d59 : Dr) => (Nx d59 (8 : Int))) p.2) fun q => Option.map (fun z => (z, q.2)) (atI p.1 q.1)) fun p => Option.map (fun (q : (Unit) × Dr) => ((p.1, q.1), q.2)) ((fun (d61 : Dr) => (some ((), d61))) p.2))) p.2)) fun p => Option.map (fun z => (z, p.2)) (f_are_delays p.1.1 p.1.2.1)))))))))))))) p.1 p.2)) p.1 p.2)
theorem t_law0 (k : Nat) (hk : 8 ≤ k) (S : Sto) (kd : Nat) (d0 : Dr) (hkd : kd < S.length) (hS : S.all Ob.flat = true) : JG (F k) gam (CB S kd [.no, .rf kd, .no, .no, .no, .no, .no, .no, .no, .no, .no, .no, .no] d0) (tailS b_law) (semR (fun r : Bool × Dr => eB r.1) fun r => S.set kd (dO r.2)) (f_law d0) :=
  JG.of (js_parXP (C := (CB S kd [.no, .rf kd, .no, .no, .no, .no, .no, .no, .no, .no, .no, .no, .no])) (jxp_cons (jx_callX (jxa_cons (jx_e (je_cst (ea := eI) (v := 5) rfl)) (fun (d2 : Dr) => jxa_nil)) (m__law_rides _ (by omega)) rfl hkd rfl hS) (fun (d3 : Dr) => (jxp_cons (jx_nxt (nx_at _ (by omega)) rfl hkd rfl hS (jx_e (je_cst (ea := eI) (v := 4) rfl))) (fun (d5 : Dr) => (jxp_cons (jx_nxt (nx_at _ (by omega)) rfl hkd rfl hS (jx_e (je_cst (ea := eI) (v := 12) rfl))) (fun (d7 : Dr) => (jxp_of jp_nil))))))) (fun p_8 d9 => (js_ctx (C' := (CB S kd [.no, .rf kd, .va ((eT (eP6 eT1 eT1 eT1 eI eI eI)) p_8.1), .va (eI p_8.2.1), .va (eI p_8.2.2.1), .no, .no, .no, .no, .no, .no, .no, .no] d9)) rfl (js_asgX (C := (CB S kd [.no, .rf kd, .va ((eT (eP6 eT1 eT1 eT1 eI eI eI)) p_8.1), .va (eI p_8.2.1), .va (eI p_8.2.2.1), .no, .no, .no, .no, .no, .no, .no, .no])) (C' := fun delays_10 d22 => (CB S kd [.no, .rf kd, .va ((eT (eP6 eT1 eT1 eT1 eI eI eI)) p_8.1), .va (eI p_8.2.1), .va (eI p_8.2.2.1), .va ((eT (eP2 eT1 eI)) delays_10), .no, .no, .no, .no, .no, .no, .no] d22)) (jx_blt (fun x => some x) o_tupL (jx_fil (C' := (fun x13 : (SO × SO × SO × Int × Int × Int) => fun (d14 : Dr) => (CB S kd [.no, .rf kd, .va ((eT (eP6 eT1 eT1 eT1 eI eI eI)) p_8.1), .va (eI p_8.2.1), .va (eI p_8.2.2.1), .no, .no, .no, .va ((eP6 eT1 eT1 eT1 eI eI eI) x13), .no, .no, .no, .no] d14))) (jxi_e (JI0.of (t' := (some p_8.1)) (ji_seq0 (fun v => v) (fun _ => .inr rfl) (je_var (ea := (eT (eP6 eT1 eT1 eT1 eI eI eI))) (v := p_8.1) rfl)) rfl)) (fun _ => rfl) (fun x13 d14 => (jb_nm 8 _)) (fun _ _ => rfl) (fun x13 d14 => (jxt_b (jx_cmp (fun x y => some (decide (x = y))) (fun x y z h => by rw [o_eq eq_I (by decide)]; exact h) (jx_nxt (nx_at _ (by omega)) rfl hkd rfl hS (jx_e (je_cst (ea := eI) (v := 3) rfl))) (fun (d20 : Dr) => (jx_e (je_cst (ea := eI) (v := 0) rfl)))))) (fun x13 d14 => (jx_tup (ec := (eP2 eT1 eI)) (jxa_cons (jx_e (JE.of (je_at (ec := eT1) (fun v => v.1) (fun _ => rfl) (JE.v (je_var (ea := (eP6 eT1 eT1 eT1 eI eI eI)) (v := x13) rfl)) (JE.of (je_cst (ea := eI) (v := 0) rfl) rfl)) rfl)) (fun (d16 : Dr) => (jxa_cons (jx_bin (ea := eI) (eb := eI) (ec := eI) (fun x y => some (x + y)) o_add (jx_e (je_cst (ea := eI) (v := 1) rfl)) (fun (d17 : Dr) => (jx_nxt (nx_at _ (by omega)) rfl hkd rfl hS (jx_e (je_cst (ea := eI) (v := 15) rfl))))) (fun (d19 : Dr) => jxa_nil)))) (fun v => (v.1, v.2.1)) (fun _ => rfl))))) (fun _ _ => jb_nm 5 _) (fun delays_10 d22 => (js_ifx (JT.of (t' := (Option.map (fun x => (!decide (x = true))) (f_are_delays_vT p_8.1 delays_10))) (jt_b (JE.of (t' := (Option.map (fun x => (!decide (x = true))) (f_are_delays_vT p_8.1 delays_10))) (je_isnB true (JE.of (t' := (f_are_delays_vT p_8.1 delays_10)) (je_call (ja_cons (je_var (ea := (eT (eP6 eT1 eT1 eT1 eI eI eI))) (v := p_8.1) rfl) (ja_cons (je_var (ea := (eT (eP2 eT1 eI))) (v := delays_10) rfl) ja_nil)) (m_are_delays_vT _ (by omega)) (CB_flat hS _)) (by simp only [ob1, ob2, ob3, ob4]))) (by simp only [ob1, ob2, ob3, ob4]))) (by simp only [ob1, ob2, ob3, ob4])) (js_retXX (C := (CB S kd [.no, .rf kd, .va ((eT (eP6 eT1 eT1 eT1 eI eI eI)) p_8.1), .va (eI p_8.2.1), .va (eI p_8.2.2.1), .va ((eT (eP2 eT1 eI)) delays_10), .no, .no, .no, .no, .no, .no, .no])) (jx_e (je_cst (ea := eB) (v := false) rfl))) (js_par (JP.of (t' := (Option.bind (f__law_true p_8.1 p_8.2.1 delays_10 p_8.2.2.1) fun y24 => (some (y24, ([] : List (SO × SO)), ())))) (jp_va (JE.of (t' := (f__law_true p_8.1 p_8.2.1 delays_10 p_8.2.2.1)) (je_call (ja_cons (je_var (ea := (eT (eP6 eT1 eT1 eT1 eI eI eI))) (v := p_8.1) rfl) (ja_cons (je_var (ea := eI) (v := p_8.2.1) rfl) (ja_cons (je_var (ea := (eT (eP2 eT1 eI))) (v := delays_10) rfl) (ja_cons (je_var (ea := eI) (v := p_8.2.2.1) rfl) ja_nil)))) (m__law_true _ (by omega)) (CB_flat hS _)) (by simp only [ob1, ob2, ob3, ob4])) (jp_va (JE.of (je_lst (ec := (eL (eP2 eT1 eT1))) ja_nil (fun _ => []) (fun _ => ⟨rfl, rfl⟩)) rfl) jp_nil)) (by simp only [ob1, ob2, ob3, ob4])) (fun p_23 => (js_ctx (C' := (CB S kd [.no, .rf kd, .va ((eT (eP6 eT1 eT1 eT1 eI eI eI)) p_8.1), .va (eI p_8.2.1), .va (eI p_8.2.2.1), .va ((eT (eP2 eT1 eI)) delays_10), .va ((eM eT1 (eP2 eI eI)) p_23.1), .va ((eL (eP2 eT1 eT1)) p_23.2.1), .no, .no, .no, .no, .no] d22)) rfl (js_forO (L := (fun st35 : (List (SO × SO)) => (CB S kd [.no, .rf kd, .va ((eT (eP6 eT1 eT1 eT1 eI eI eI)) p_8.1), .va (eI p_8.2.1), .va (eI p_8.2.2.1), .va ((eT (eP2 eT1 eI)) delays_10), .va ((eM eT1 (eP2 eI eI)) p_23.1), .va ((eL (eP2 eT1 eT1)) st35), .no, .no, .no, .no, .no] d22))) (C' := (fun (ride_36 : (SO × SO × SO × Int × Int × Int)) (st35 : (List (SO × SO))) => (CB S kd [.no, .rf kd, .va ((eT (eP6 eT1 eT1 eT1 eI eI eI)) p_8.1), .va (eI p_8.2.1), .va (eI p_8.2.2.1), .va ((eT (eP2 eT1 eI)) delays_10), .va ((eM eT1 (eP2 eI eI)) p_23.1), .va ((eL (eP2 eT1 eT1)) st35), .va ((eP6 eT1 eT1 eT1 eI eI eI) ride_36), .no, .no, .no, .no] d22))) (s0 := p_23.2.1) (mk := id) (f := (fun (ride_36 : (SO × SO × SO × Int × Int × Int)) (st35 : (List (SO × SO))) => (let near_64 : (List SO) := (List.map (fun (other_65 : (SO × SO × SO × Int × Int × Int)) => other_65.1) (List.filter (fun (other_65 : (SO × SO × SO × Int × Int × Int)) => ((decide (other_65.2.2.1 = ride_36.2.1)) && ((decide (p_8.2.1 ≤ (ride_36.2.2.2.1 - other_65.2.2.2.2.1))) && (decide ((ride_36.2.2.2.1 - other_65.2.2.2.2.1) ≤ (30 : Int)))))) p_8.1)); (Option.bind (Option.map (fun x => !x) (Option.bind (f_met_by p_8.1 p_8.2.1 ride_36.1) fun x66 => (sameO (eL eT1) 2 x66 near_64))) fun b76 => (if b76 = true then (Option.map .rt (some (false, d22))) else (Option.bind (Option.bind (filO (fun (name_69 : SO) => (Option.bind (Option.bind (Option.map (fun (v : (Int × Int)) => v.1) (getM p_23.1 ride_36.1)) fun x70 => (Option.bind (Option.map (fun (v : (Int × Int)) => v.2) (getM p_23.1 name_69)) fun y71 => (some (x70 - y71)))) fun x72 => (some (decide (x72 < p_8.2.1))))) (fun (name_69 : SO) => (some (ride_36.1, name_69))) near_64) fun y75 => (appO st35 y75)) fun rows_68 => (some (.nx rows_68)))))))) mk_R (JI0.of (t' := (some p_8.1)) (ji_seq0 (fun v => v) (fun _ => .inr rfl) (je_var (ea := (eT (eP6 eT1 eT1 eT1 eI eI eI))) (v := p_8.1) rfl)) rfl) (.cons (.no _) (.cons (.eq _) (.cons (.eq _) (.cons (.eq _) (.cons (.eq _) (.cons (.eq _) (.cons (.eq _) (.cons (.eq _) (.cons (.no _) (.cons (.no _) (.cons (.no _) (.cons (.no _) (.cons (.no _) .nil))))))))))))) rfl (fun _ => rfl) (fun ride_36 st35 => (jb_nm 8 _)) (fun ride_36 st35 => (JG.of (js_asg (C' := fun near_64 => (CB S kd [.no, .rf kd, .va ((eT (eP6 eT1 eT1 eT1 eI eI eI)) p_8.1), .va (eI p_8.2.1), .va (eI p_8.2.2.1), .va ((eT (eP2 eT1 eI)) delays_10), .va ((eM eT1 (eP2 eI eI)) p_23.1), .va ((eL (eP2 eT1 eT1)) st35), .va ((eP6 eT1 eT1 eT1 eI eI eI) ride_36), .no, .no, .va ((eL eT1) near_64), .no] d22)) (JE.of (t' := (some (List.map (fun (other_65 : (SO × SO × SO × Int × Int × Int)) => other_65.1) (List.filter (fun (other_65 : (SO × SO × SO × Int × Int × Int)) => ((decide (other_65.2.2.1 = ride_36.2.1)) && ((decide (p_8.2.1 ≤ (ride_36.2.2.2.1 - other_65.2.2.2.2.1))) && (decide ((ride_36.2.2.2.1 - other_65.2.2.2.2.1) ≤ (30 : Int)))))) p_8.1)))) (je_filT (C' := (fun other_65 : (SO × SO × SO × Int × Int × Int) => (CB S kd [.no, .rf kd, .va ((eT (eP6 eT1 eT1 eT1 eI eI eI)) p_8.1), .va (eI p_8.2.1), .va (eI p_8.2.2.1), .va ((eT (eP2 eT1 eI)) delays_10), .va ((eM eT1 (eP2 eI eI)) p_23.1), .va ((eL (eP2 eT1 eT1)) st35), .va ((eP6 eT1 eT1 eT1 eI eI eI) ride_36), .no, .no, .no, .va ((eP6 eT1 eT1 eT1 eI eI eI) other_65)] d22))) (p := fun (other_65 : (SO × SO × SO × Int × Int × Int)) => ((decide (other_65.2.2.1 = ride_36.2.1)) && ((decide (p_8.2.1 ≤ (ride_36.2.2.2.1 - other_65.2.2.2.2.1))) && (decide ((ride_36.2.2.2.1 - other_65.2.2.2.2.1) ≤ (30 : Int)))))) (g := fun (other_65 : (SO × SO × SO × Int × Int × Int)) => other_65.1) (JI0.i (JI0.of (t' := (some p_8.1)) (ji_seq0 (fun v => v) (fun _ => .inr rfl) (je_var (ea := (eT (eP6 eT1 eT1 eT1 eI eI eI))) (v := p_8.1) rfl)) rfl)) (fun other_65 => (jb_nm 12 _)) (fun other_65 => (JT.of (jt_andT (JT.of (jt_b (JE.of (je_cmp (fun x y => some (decide (x = y))) (fun x y z h => by rw [o_eq eq_S (by decide)]; exact h) (JE.v (JE.of (je_at (ec := eT1) (fun v => v.2.2.1) (fun _ => rfl) (JE.v (je_var (ea := (eP6 eT1 eT1 eT1 eI eI eI)) (v := other_65) rfl)) (JE.of (je_cst (ea := eI) (v := 2) rfl) rfl)) rfl)) (JE.v (JE.of (je_at (ec := eT1) (fun v => v.2.1) (fun _ => rfl) (JE.v (je_var (ea := (eP6 eT1 eT1 eT1 eI eI eI)) (v := ride_36) rfl)) (JE.of (je_cst (ea := eI) (v := 1) rfl) rfl)) rfl))) rfl)) rfl) (JT.of (jt_and1 (JT.of (jt_b (JE.of (je_chnT (fun x y => (decide (x ≤ y))) (fun x y => (decide (x ≤ y))) (fun x y => by rw [o_leI]) (fun x y => by rw [o_leI]) (JE.v (je_var (ea := eI) (v := p_8.2.1) rfl)) (JE.v (JE.of (je_bin (ea := eI) (eb := eI) (ec := eI) (fun x y => some (x - y)) o_sub (JE.v (JE.of (je_at (ec := eI) (fun v => v.2.2.2.1) (fun _ => rfl) (JE.v (je_var (ea := (eP6 eT1 eT1 eT1 eI eI eI)) (v := ride_36) rfl)) (JE.of (je_cst (ea := eI) (v := 3) rfl) rfl)) rfl)) (JE.v (JE.of (je_at (ec := eI) (fun v => v.2.2.2.2.1) (fun _ => rfl) (JE.v (je_var (ea := (eP6 eT1 eT1 eT1 eI eI eI)) (v := other_65) rfl)) (JE.of (je_cst (ea := eI) (v := 4) rfl) rfl)) rfl))) rfl)) (JE.v (je_cst (ea := eI) (v := 30) rfl))) rfl)) rfl)) rfl)) rfl)) (fun other_65 => (JE.of (je_at (ec := eT1) (fun v => v.1) (fun _ => rfl) (JE.v (je_var (ea := (eP6 eT1 eT1 eT1 eI eI eI)) (v := other_65) rfl)) (JE.of (je_cst (ea := eI) (v := 0) rfl) rfl)) rfl))) rfl) (fun _ => jb_nm 11 _) (fun near_64 => (js_ifx (JT.of (t' := (Option.map (fun x => !x) (Option.bind (f_met_by p_8.1 p_8.2.1 ride_36.1) fun x66 => (sameO (eL eT1) 2 x66 near_64)))) (jt_b (JE.of (t' := (Option.map (fun x => !x) (Option.bind (f_met_by p_8.1 p_8.2.1 ride_36.1) fun x66 => (sameO (eL eT1) 2 x66 near_64)))) (je_not (JT.of (t' := (Option.bind (f_met_by p_8.1 p_8.2.1 ride_36.1) fun x66 => (sameO (eL eT1) 2 x66 near_64))) (jt_b (JE.of (t' := (Option.bind (f_met_by p_8.1 p_8.2.1 ride_36.1) fun x66 => (sameO (eL eT1) 2 x66 near_64))) (je_call (ja_cons (JE.of (t' := (f_met_by p_8.1 p_8.2.1 ride_36.1)) (je_call (ja_cons (je_var (ea := (eT (eP6 eT1 eT1 eT1 eI eI eI))) (v := p_8.1) rfl) (ja_cons (je_var (ea := eI) (v := p_8.2.1) rfl) (ja_cons (JE.of (je_at (ec := eT1) (fun v => v.1) (fun _ => rfl) (JE.v (je_var (ea := (eP6 eT1 eT1 eT1 eI eI eI)) (v := ride_36) rfl)) (JE.of (je_cst (ea := eI) (v := 0) rfl) rfl)) rfl) ja_nil))) (m_met_by _ (by omega)) (CB_flat hS _)) (by simp only [ob1, ob2, ob3, ob4])) (ja_cons (je_var (ea := (eL eT1)) (v := near_64) rfl) ja_nil)) (same_at 2 _ (by omega)) (CB_flat hS _)) (by simp only [ob1, ob2, ob3, ob4]))) (by simp only [ob1, ob2, ob3, ob4]))) (by simp only [ob1, ob2, ob3, ob4]))) (by simp only [ob1, ob2, ob3, ob4])) (js_retSXX (C := (CB S kd [.no, .rf kd, .va ((eT (eP6 eT1 eT1 eT1 eI eI eI)) p_8.1), .va (eI p_8.2.1), .va (eI p_8.2.2.1), .va ((eT (eP2 eT1 eI)) delays_10), .va ((eM eT1 (eP2 eI eI)) p_23.1), .va ((eL (eP2 eT1 eT1)) st35), .va ((eP6 eT1 eT1 eT1 eI eI eI) ride_36), .no, .no, .va ((eL eT1) near_64), .no])) (jx_e (je_cst (ea := eB) (v := false) rfl))) (js_asg (C' := fun rows_68 => (CB S kd [.no, .rf kd, .va ((eT (eP6 eT1 eT1 eT1 eI eI eI)) p_8.1), .va (eI p_8.2.1), .va (eI p_8.2.2.1), .va ((eT (eP2 eT1 eI)) delays_10), .va ((eM eT1 (eP2 eI eI)) p_23.1), .va ((eL (eP2 eT1 eT1)) rows_68), .va ((eP6 eT1 eT1 eT1 eI eI eI) ride_36), .no, .no, .va ((eL eT1) near_64), .no] d22)) (JE.of (t' := (Option.bind (filO (fun (name_69 : SO) => (Option.bind (Option.bind (Option.map (fun (v : (Int × Int)) => v.1) (getM p_23.1 ride_36.1)) fun x70 => (Option.bind (Option.map (fun (v : (Int × Int)) => v.2) (getM p_23.1 name_69)) fun y71 => (some (x70 - y71)))) fun x72 => (some (decide (x72 < p_8.2.1))))) (fun (name_69 : SO) => (some (ride_36.1, name_69))) near_64) fun y75 => (appO st35 y75))) (je_bin (ea := (eL (eP2 eT1 eT1))) (eb := (eL (eP2 eT1 eT1))) (ec := (eL (eP2 eT1 eT1))) (fun x y => appO x y) o_appL (JE.v (je_var (ea := (eL (eP2 eT1 eT1))) (v := st35) rfl)) (JE.v (JE.of (t' := (filO (fun (name_69 : SO) => (Option.bind (Option.bind (Option.map (fun (v : (Int × Int)) => v.1) (getM p_23.1 ride_36.1)) fun x70 => (Option.bind (Option.map (fun (v : (Int × Int)) => v.2) (getM p_23.1 name_69)) fun y71 => (some (x70 - y71)))) fun x72 => (some (decide (x72 < p_8.2.1))))) (fun (name_69 : SO) => (some (ride_36.1, name_69))) near_64)) (je_fil (C' := (fun name_69 : SO => (CB S kd [.no, .rf kd, .va ((eT (eP6 eT1 eT1 eT1 eI eI eI)) p_8.1), .va (eI p_8.2.1), .va (eI p_8.2.2.1), .va ((eT (eP2 eT1 eI)) delays_10), .va ((eM eT1 (eP2 eI eI)) p_23.1), .va ((eL (eP2 eT1 eT1)) st35), .va ((eP6 eT1 eT1 eT1 eI eI eI) ride_36), .va (eT1 name_69), .no, .va ((eL eT1) near_64), .no] d22))) (p := fun (name_69 : SO) => (Option.bind (Option.bind (Option.map (fun (v : (Int × Int)) => v.1) (getM p_23.1 ride_36.1)) fun x70 => (Option.bind (Option.map (fun (v : (Int × Int)) => v.2) (getM p_23.1 name_69)) fun y71 => (some (x70 - y71)))) fun x72 => (some (decide (x72 < p_8.2.1))))) (g := fun (name_69 : SO) => (some (ride_36.1, name_69))) (JI0.i (JI0.of (t' := (some near_64)) (ji_seq0 (fun v => v) (fun _ => .inl rfl) (je_var (ea := (eL eT1)) (v := near_64) rfl)) rfl)) (fun name_69 => (jb_nm 9 _)) (fun name_69 => (JT.of (t' := (Option.bind (Option.bind (Option.map (fun (v : (Int × Int)) => v.1) (getM p_23.1 ride_36.1)) fun x70 => (Option.bind (Option.map (fun (v : (Int × Int)) => v.2) (getM p_23.1 name_69)) fun y71 => (some (x70 - y71)))) fun x72 => (some (decide (x72 < p_8.2.1))))) (jt_b (JE.of (t' := (Option.bind (Option.bind (Option.map (fun (v : (Int × Int)) => v.1) (getM p_23.1 ride_36.1)) fun x70 => (Option.bind (Option.map (fun (v : (Int × Int)) => v.2) (getM p_23.1 name_69)) fun y71 => (some (x70 - y71)))) fun x72 => (some (decide (x72 < p_8.2.1))))) (je_cmp (fun x y => some (decide (x < y))) (fun x y z h => by rw [o_ltI]; exact h) (JE.v (JE.of (t' := (Option.bind (Option.map (fun (v : (Int × Int)) => v.1) (getM p_23.1 ride_36.1)) fun x70 => (Option.bind (Option.map (fun (v : (Int × Int)) => v.2) (getM p_23.1 name_69)) fun y71 => (some (x70 - y71))))) (je_bin (ea := eI) (eb := eI) (ec := eI) (fun x y => some (x - y)) o_sub (JE.v (JE.of (t' := (Option.map (fun (v : (Int × Int)) => v.1) (getM p_23.1 ride_36.1))) (je_at (ec := eI) (fun v => v.1) (fun _ => rfl) (JE.v (JE.of (t' := (getM p_23.1 ride_36.1)) (je_ix (fun x y => getM x y) (o_get key_S) (JE.v (je_var (ea := (eM eT1 (eP2 eI eI))) (v := p_23.1) rfl)) (JE.v (JE.of (je_at (ec := eT1) (fun v => v.1) (fun _ => rfl) (JE.v (je_var (ea := (eP6 eT1 eT1 eT1 eI eI eI)) (v := ride_36) rfl)) (JE.of (je_cst (ea := eI) (v := 0) rfl) rfl)) rfl))) (by simp only [ob1, ob2, ob3, ob4]))) (JE.of (je_cst (ea := eI) (v := 0) rfl) rfl)) (by simp only [ob1, ob2, ob3, ob4]))) (JE.v (JE.of (t' := (Option.map (fun (v : (Int × Int)) => v.2) (getM p_23.1 name_69))) (je_at (ec := eI) (fun v => v.2) (fun _ => rfl) (JE.v (JE.of (t' := (getM p_23.1 name_69)) (je_ix (fun x y => getM x y) (o_get key_S) (JE.v (je_var (ea := (eM eT1 (eP2 eI eI))) (v := p_23.1) rfl)) (JE.v (je_var (ea := eT1) (v := name_69) rfl))) (by simp only [ob1, ob2, ob3, ob4]))) (JE.of (je_cst (ea := eI) (v := 1) rfl) rfl)) (by simp only [ob1, ob2, ob3, ob4])))) (by simp only [ob1, ob2, ob3, ob4]))) (JE.v (je_var (ea := eI) (v := p_8.2.1) rfl))) (by simp only [ob1, ob2, ob3, ob4]))) (by simp only [ob1, ob2, ob3, ob4]))) (fun name_69 => (JE.of (je_tup (ec := (eP2 eT1 eT1)) (ja_cons (JE.of (je_at (ec := eT1) (fun v => v.1) (fun _ => rfl) (JE.v (je_var (ea := (eP6 eT1 eT1 eT1 eI eI eI)) (v := ride_36) rfl)) (JE.of (je_cst (ea := eI) (v := 0) rfl) rfl)) rfl) (ja_cons (je_var (ea := eT1) (v := name_69) rfl) ja_nil)) (fun v => (v.1, v.2.1)) (fun _ => ⟨rfl, rfl⟩)) rfl))) (by simp only [ob1, ob2, ob3, ob4])))) (by simp only [ob1, ob2, ob3, ob4])) (fun _ => jb_nm 7 _) (fun rows_68 => (js_wk (c' := [.no, .rf kd, .va ((eT (eP6 eT1 eT1 eT1 eI eI eI)) p_8.1), .va (eI p_8.2.1), .va (eI p_8.2.2.1), .va ((eT (eP2 eT1 eI)) delays_10), .va ((eM eT1 (eP2 eI eI)) p_23.1), .va ((eL (eP2 eT1 eT1)) rows_68), .no, .no, .no, .no, .no]) (.cons (.no _) (.cons (.eq _) (.cons (.eq _) (.cons (.eq _) (.cons (.eq _) (.cons (.eq _) (.cons (.eq _) (.cons (.eq _) (.cons (.no _) (.cons (.no _) (.cons (.no _) (.cons (.no _) (.cons (.no _) .nil))))))))))))) (js_ctx (C' := (CB S kd [.no, .rf kd, .va ((eT (eP6 eT1 eT1 eT1 eI eI eI)) p_8.1), .va (eI p_8.2.1), .va (eI p_8.2.2.1), .va ((eT (eP2 eT1 eI)) delays_10), .va ((eM eT1 (eP2 eI eI)) p_23.1), .va ((eL (eP2 eT1 eT1)) rows_68), .no, .no, .no, .no, .no] d22)) rfl (js_endS (L := (fun st35 : (List (SO × SO)) => (CB S kd [.no, .rf kd, .va ((eT (eP6 eT1 eT1 eT1 eI eI eI)) p_8.1), .va (eI p_8.2.1), .va (eI p_8.2.2.1), .va ((eT (eP2 eT1 eI)) delays_10), .va ((eM eT1 (eP2 eI eI)) p_23.1), .va ((eL (eP2 eT1 eT1)) st35), .no, .no, .no, .no, .no] d22))) rows_68 (.cons (.no _) (.cons (.eq _) (.cons (.eq _) (.cons (.eq _) (.cons (.eq _) (.cons (.eq _) (.cons (.eq _) (.cons (.eq _) (.cons (.no _) (.cons (.no _) (.cons (.no _) (.cons (.no _) (.cons (.no _) .nil))))))))))))) rfl)))))))) rfl)) (fun st35 => (js_ifx (JT.of (t' := (Option.bind (Option.map (fun x => !x) (Option.bind (f_true_times p_8.1 p_8.2.1 delays_10 p_8.2.2.1) fun x40 => (Option.bind (mapO (fun (ride_37 : (SO × SO × SO × Int × Int × Int)) => (Option.bind (getM p_23.1 ride_37.1) fun y39 => (some ((ride_37.1), y39.1, y39.2)))) p_8.1) fun y41 => (sameO (eL (eP3 eT1 eI eI)) 3 x40 y41)))) fun x44 => (if x44 = true then some true else (Option.map (fun x => !x) (Option.bind (f_missed p_8.1 p_8.2.1 delays_10 p_8.2.2.1) fun x42 => (sameO (eL (eP2 eT1 eT1)) 3 x42 st35)))))) (jt_or (JT.of (t' := (Option.map (fun x => !x) (Option.bind (f_true_times p_8.1 p_8.2.1 delays_10 p_8.2.2.1) fun x40 => (Option.bind (mapO (fun (ride_37 : (SO × SO × SO × Int × Int × Int)) => (Option.bind (getM p_23.1 ride_37.1) fun y39 => (some ((ride_37.1), y39.1, y39.2)))) p_8.1) fun y41 => (sameO (eL (eP3 eT1 eI eI)) 3 x40 y41))))) (jt_b (JE.of (t' := (Option.map (fun x => !x) (Option.bind (f_true_times p_8.1 p_8.2.1 delays_10 p_8.2.2.1) fun x40 => (Option.bind (mapO (fun (ride_37 : (SO × SO × SO × Int × Int × Int)) => (Option.bind (getM p_23.1 ride_37.1) fun y39 => (some ((ride_37.1), y39.1, y39.2)))) p_8.1) fun y41 => (sameO (eL (eP3 eT1 eI eI)) 3 x40 y41))))) (je_not (JT.of (t' := (Option.bind (f_true_times p_8.1 p_8.2.1 delays_10 p_8.2.2.1) fun x40 => (Option.bind (mapO (fun (ride_37 : (SO × SO × SO × Int × Int × Int)) => (Option.bind (getM p_23.1 ride_37.1) fun y39 => (some ((ride_37.1), y39.1, y39.2)))) p_8.1) fun y41 => (sameO (eL (eP3 eT1 eI eI)) 3 x40 y41)))) (jt_b (JE.of (t' := (Option.bind (f_true_times p_8.1 p_8.2.1 delays_10 p_8.2.2.1) fun x40 => (Option.bind (mapO (fun (ride_37 : (SO × SO × SO × Int × Int × Int)) => (Option.bind (getM p_23.1 ride_37.1) fun y39 => (some ((ride_37.1), y39.1, y39.2)))) p_8.1) fun y41 => (sameO (eL (eP3 eT1 eI eI)) 3 x40 y41)))) (je_call (ja_cons (JE.of (t' := (f_true_times p_8.1 p_8.2.1 delays_10 p_8.2.2.1)) (je_call (ja_cons (je_var (ea := (eT (eP6 eT1 eT1 eT1 eI eI eI))) (v := p_8.1) rfl) (ja_cons (je_var (ea := eI) (v := p_8.2.1) rfl) (ja_cons (je_var (ea := (eT (eP2 eT1 eI))) (v := delays_10) rfl) (ja_cons (je_var (ea := eI) (v := p_8.2.2.1) rfl) ja_nil)))) (m_true_times _ (by omega)) (CB_flat hS _)) (by simp only [ob1, ob2, ob3, ob4])) (ja_cons (JE.of (t' := (mapO (fun (ride_37 : (SO × SO × SO × Int × Int × Int)) => (Option.bind (getM p_23.1 ride_37.1) fun y39 => (some ((ride_37.1), y39.1, y39.2)))) p_8.1)) (je_map (C' := (fun ride_37 : (SO × SO × SO × Int × Int × Int) => (CB S kd [.no, .rf kd, .va ((eT (eP6 eT1 eT1 eT1 eI eI eI)) p_8.1), .va (eI p_8.2.1), .va (eI p_8.2.2.1), .va ((eT (eP2 eT1 eI)) delays_10), .va ((eM eT1 (eP2 eI eI)) p_23.1), .va ((eL (eP2 eT1 eT1)) st35), .va ((eP6 eT1 eT1 eT1 eI eI eI) ride_37), .no, .no, .no, .no] d22))) (g := fun (ride_37 : (SO × SO × SO × Int × Int × Int)) => (Option.bind (getM p_23.1 ride_37.1) fun y39 => (some ((ride_37.1), y39.1, y39.2)))) (JI0.i (JI0.of (t' := (some p_8.1)) (ji_seq0 (fun v => v) (fun _ => .inr rfl) (je_var (ea := (eT (eP6 eT1 eT1 eT1 eI eI eI))) (v := p_8.1) rfl)) rfl)) (fun ride_37 => (jb_nm 8 _)) (fun ride_37 => (JE.of (t' := (Option.bind (getM p_23.1 ride_37.1) fun y39 => (some ((ride_37.1), y39.1, y39.2)))) (je_bin (ea := (eP1 eT1)) (eb := (eP2 eI eI)) (ec := (eP3 eT1 eI eI)) (fun x y => some (x, y.1, y.2)) (fun _ _ _ h => by cases h; exact o_tup rfl rfl rfl (Nat.le_of_ble_eq_true rfl)) (JE.v (JE.of (je_tup (ec := (eP1 eT1)) (ja_cons (JE.of (je_at (ec := eT1) (fun v => v.1) (fun _ => rfl) (JE.v (je_var (ea := (eP6 eT1 eT1 eT1 eI eI eI)) (v := ride_37) rfl)) (JE.of (je_cst (ea := eI) (v := 0) rfl) rfl)) rfl) ja_nil) (fun v => (v.1)) (fun _ => ⟨rfl, rfl⟩)) rfl)) (JE.v (JE.of (t' := (getM p_23.1 ride_37.1)) (je_ix (fun x y => getM x y) (o_get key_S) (JE.v (je_var (ea := (eM eT1 (eP2 eI eI))) (v := p_23.1) rfl)) (JE.v (JE.of (je_at (ec := eT1) (fun v => v.1) (fun _ => rfl) (JE.v (je_var (ea := (eP6 eT1 eT1 eT1 eI eI eI)) (v := ride_37) rfl)) (JE.of (je_cst (ea := eI) (v := 0) rfl) rfl)) rfl))) (by simp only [ob1, ob2, ob3, ob4])))) (by simp only [ob1, ob2, ob3, ob4])))) (by simp only [ob1, ob2, ob3, ob4])) ja_nil)) (same_at 3 _ (by omega)) (CB_flat hS _)) (by simp only [ob1, ob2, ob3, ob4]))) (by simp only [ob1, ob2, ob3, ob4]))) (by simp only [ob1, ob2, ob3, ob4]))) (by simp only [ob1, ob2, ob3, ob4])) (JT.of (t' := (Option.map (fun x => !x) (Option.bind (f_missed p_8.1 p_8.2.1 delays_10 p_8.2.2.1) fun x42 => (sameO (eL (eP2 eT1 eT1)) 3 x42 st35)))) (jt_or1 (JT.of (t' := (Option.map (fun x => !x) (Option.bind (f_missed p_8.1 p_8.2.1 delays_10 p_8.2.2.1) fun x42 => (sameO (eL (eP2 eT1 eT1)) 3 x42 st35)))) (jt_b (JE.of (t' := (Option.map (fun x => !x) (Option.bind (f_missed p_8.1 p_8.2.1 delays_10 p_8.2.2.1) fun x42 => (sameO (eL (eP2 eT1 eT1)) 3 x42 st35)))) (je_not (JT.of (t' := (Option.bind (f_missed p_8.1 p_8.2.1 delays_10 p_8.2.2.1) fun x42 => (sameO (eL (eP2 eT1 eT1)) 3 x42 st35))) (jt_b (JE.of (t' := (Option.bind (f_missed p_8.1 p_8.2.1 delays_10 p_8.2.2.1) fun x42 => (sameO (eL (eP2 eT1 eT1)) 3 x42 st35))) (je_call (ja_cons (JE.of (t' := (f_missed p_8.1 p_8.2.1 delays_10 p_8.2.2.1)) (je_call (ja_cons (je_var (ea := (eT (eP6 eT1 eT1 eT1 eI eI eI))) (v := p_8.1) rfl) (ja_cons (je_var (ea := eI) (v := p_8.2.1) rfl) (ja_cons (je_var (ea := (eT (eP2 eT1 eI))) (v := delays_10) rfl) (ja_cons (je_var (ea := eI) (v := p_8.2.2.1) rfl) ja_nil)))) (m_missed _ (by omega)) (CB_flat hS _)) (by simp only [ob1, ob2, ob3, ob4])) (ja_cons (je_var (ea := (eL (eP2 eT1 eT1))) (v := st35) rfl) ja_nil)) (same_at 3 _ (by omega)) (CB_flat hS _)) (by simp only [ob1, ob2, ob3, ob4]))) (by simp only [ob1, ob2, ob3, ob4]))) (by simp only [ob1, ob2, ob3, ob4]))) (by simp only [ob1, ob2, ob3, ob4]))) (by simp only [ob1, ob2, ob3, ob4]))) (by simp only [ob1, ob2, ob3, ob4])) (js_retXX (C := (CB S kd [.no, .rf kd, .va ((eT (eP6 eT1 eT1 eT1 eI eI eI)) p_8.1), .va (eI p_8.2.1), .va (eI p_8.2.2.1), .va ((eT (eP2 eT1 eI)) delays_10), .va ((eM eT1 (eP2 eI eI)) p_23.1), .va ((eL (eP2 eT1 eT1)) st35), .no, .no, .no, .no, .no])) (jx_e (je_cst (ea := eB) (v := false) rfl))) (js_ifx (JT.of (t' := (Option.bind (Option.bind (f_true_times p_8.1 p_8.2.1 [] p_8.2.2.1) fun x46 => (some (!decide (x46 = (List.map (fun (ride_45 : (SO × SO × SO × Int × Int × Int)) => (ride_45.1, ride_45.2.2.2.1, ride_45.2.2.2.2.1)) p_8.1))))) fun x50 => (if x50 = true then some true else (Option.bind (f_missed p_8.1 p_8.2.1 [] p_8.2.2.1) fun x48 => (some (!decide (x48 = ([] : List (SO × SO))))))))) (jt_or (JT.of (t' := (Option.bind (f_true_times p_8.1 p_8.2.1 [] p_8.2.2.1) fun x46 => (some (!decide (x46 = (List.map (fun (ride_45 : (SO × SO × SO × Int × Int × Int)) => (ride_45.1, ride_45.2.2.2.1, ride_45.2.2.2.2.1)) p_8.1)))))) (jt_b (JE.of (t' := (Option.bind (f_true_times p_8.1 p_8.2.1 [] p_8.2.2.1) fun x46 => (some (!decide (x46 = (List.map (fun (ride_45 : (SO × SO × SO × Int × Int × Int)) => (ride_45.1, ride_45.2.2.2.1, ride_45.2.2.2.2.1)) p_8.1)))))) (je_cmp (fun x y => some (!decide (x = y))) (fun x y z h => by rw [o_ne (eq_L (eq_P3 eq_S eq_I eq_I)) (by decide)]; exact h) (JE.v (JE.of (t' := (f_true_times p_8.1 p_8.2.1 [] p_8.2.2.1)) (je_call (ja_cons (je_var (ea := (eT (eP6 eT1 eT1 eT1 eI eI eI))) (v := p_8.1) rfl) (ja_cons (je_var (ea := eI) (v := p_8.2.1) rfl) (ja_cons (JE.of (JE.enc (ea' := (eT (eP2 eT1 eI))) (f := fun v => []) (JE.of (JE.of (je_tup (ec := eE) ja_nil (fun _ => ()) (fun _ => ⟨rfl, rfl⟩)) rfl) rfl) (fun _ => rfl)) rfl) (ja_cons (je_var (ea := eI) (v := p_8.2.2.1) rfl) ja_nil)))) (m_true_times _ (by omega)) (CB_flat hS _)) (by simp only [ob1, ob2, ob3, ob4]))) (JE.v (JE.of (je_mapT (C' := (fun ride_45 : (SO × SO × SO × Int × Int × Int) => (CB S kd [.no, .rf kd, .va ((eT (eP6 eT1 eT1 eT1 eI eI eI)) p_8.1), .va (eI p_8.2.1), .va (eI p_8.2.2.1), .va ((eT (eP2 eT1 eI)) delays_10), .va ((eM eT1 (eP2 eI eI)) p_23.1), .va ((eL (eP2 eT1 eT1)) st35), .va ((eP6 eT1 eT1 eT1 eI eI eI) ride_45), .no, .no, .no, .no] d22))) (g := fun (ride_45 : (SO × SO × SO × Int × Int × Int)) => (ride_45.1, ride_45.2.2.2.1, ride_45.2.2.2.2.1)) (JI0.i (JI0.of (t' := (some p_8.1)) (ji_seq0 (fun v => v) (fun _ => .inr rfl) (je_var (ea := (eT (eP6 eT1 eT1 eT1 eI eI eI))) (v := p_8.1) rfl)) rfl)) (fun ride_45 => (jb_nm 8 _)) (fun ride_45 => (JE.of (je_tup (ec := (eP3 eT1 eI eI)) (ja_cons (JE.of (je_at (ec := eT1) (fun v => v.1) (fun _ => rfl) (JE.v (je_var (ea := (eP6 eT1 eT1 eT1 eI eI eI)) (v := ride_45) rfl)) (JE.of (je_cst (ea := eI) (v := 0) rfl) rfl)) rfl) (ja_cons (JE.of (je_at (ec := eI) (fun v => v.2.2.2.1) (fun _ => rfl) (JE.v (je_var (ea := (eP6 eT1 eT1 eT1 eI eI eI)) (v := ride_45) rfl)) (JE.of (je_cst (ea := eI) (v := 3) rfl) rfl)) rfl) (ja_cons (JE.of (je_at (ec := eI) (fun v => v.2.2.2.2.1) (fun _ => rfl) (JE.v (je_var (ea := (eP6 eT1 eT1 eT1 eI eI eI)) (v := ride_45) rfl)) (JE.of (je_cst (ea := eI) (v := 4) rfl) rfl)) rfl) ja_nil))) (fun v => (v.1, v.2.1, v.2.2.1)) (fun _ => ⟨rfl, rfl⟩)) rfl))) rfl))) (by simp only [ob1, ob2, ob3, ob4]))) (by simp only [ob1, ob2, ob3, ob4])) (JT.of (t' := (Option.bind (f_missed p_8.1 p_8.2.1 [] p_8.2.2.1) fun x48 => (some (!decide (x48 = ([] : List (SO × SO))))))) (jt_or1 (JT.of (t' := (Option.bind (f_missed p_8.1 p_8.2.1 [] p_8.2.2.1) fun x48 => (some (!decide (x48 = ([] : List (SO × SO))))))) (jt_b (JE.of (t' := (Option.bind (f_missed p_8.1 p_8.2.1 [] p_8.2.2.1) fun x48 => (some (!decide (x48 = ([] : List (SO × SO))))))) (je_cmp (fun x y => some (!decide (x = y))) (fun x y z h => by rw [o_ne (eq_L (eq_P2 eq_S eq_S)) (by decide)]; exact h) (JE.v (JE.of (t' := (f_missed p_8.1 p_8.2.1 [] p_8.2.2.1)) (je_call (ja_cons (je_var (ea := (eT (eP6 eT1 eT1 eT1 eI eI eI))) (v := p_8.1) rfl) (ja_cons (je_var (ea := eI) (v := p_8.2.1) rfl) (ja_cons (JE.of (JE.enc (ea' := (eT (eP2 eT1 eI))) (f := fun v => []) (JE.of (JE.of (je_tup (ec := eE) ja_nil (fun _ => ()) (fun _ => ⟨rfl, rfl⟩)) rfl) rfl) (fun _ => rfl)) rfl) (ja_cons (je_var (ea := eI) (v := p_8.2.2.1) rfl) ja_nil)))) (m_missed _ (by omega)) (CB_flat hS _)) (by simp only [ob1, ob2, ob3, ob4]))) (JE.v (JE.of (je_lst (ec := (eL (eP2 eT1 eT1))) ja_nil (fun _ => []) (fun _ => ⟨rfl, rfl⟩)) rfl))) (by simp only [ob1, ob2, ob3, ob4]))) (by simp only [ob1, ob2, ob3, ob4]))) (by simp only [ob1, ob2, ob3, ob4]))) (by simp only [ob1, ob2, ob3, ob4])) (js_retXX (C := (CB S kd [.no, .rf kd, .va ((eT (eP6 eT1 eT1 eT1 eI eI eI)) p_8.1), .va (eI p_8.2.1), .va (eI p_8.2.2.1), .va ((eT (eP2 eT1 eI)) delays_10), .va ((eM eT1 (eP2 eI eI)) p_23.1), .va ((eL (eP2 eT1 eT1)) st35), .no, .no, .no, .no, .no])) (jx_e (je_cst (ea := eB) (v := false) rfl))) (js_asg (C' := fun name_51 => (CB S kd [.no, .rf kd, .va ((eT (eP6 eT1 eT1 eT1 eI eI eI)) p_8.1), .va (eI p_8.2.1), .va (eI p_8.2.2.1), .va ((eT (eP2 eT1 eI)) delays_10), .va ((eM eT1 (eP2 eI eI)) p_23.1), .va ((eL (eP2 eT1 eT1)) st35), .no, .va (eT1 name_51), .no, .no, .no] d22)) (JE.of (t' := (if (!decide (p_8.1 = [])) = true then (Option.map (fun (v : (SO × SO × SO × Int × Int × Int)) => v.1) (atI p_8.1 (0 : Int))) else (some q_ra))) (je_ite (JT.of (jt_b (JE.of (je_cmp (fun x y => some (!decide (x = y))) (fun x y z h => by rw [o_ne (eq_T (eq_P6 eq_S eq_S eq_S eq_I eq_I eq_I)) (by decide)]; exact h) (JE.v (je_var (ea := (eT (eP6 eT1 eT1 eT1 eI eI eI))) (v := p_8.1) rfl)) (JE.v (JE.of (JE.enc (ea' := (eT (eP6 eT1 eT1 eT1 eI eI eI))) (f := fun v => []) (JE.of (je_tup (ec := eE) ja_nil (fun _ => ()) (fun _ => ⟨rfl, rfl⟩)) rfl) (fun _ => rfl)) rfl))) rfl)) rfl) (JE.of (t' := (Option.map (fun (v : (SO × SO × SO × Int × Int × Int)) => v.1) (atI p_8.1 (0 : Int)))) (je_at (ec := eT1) (fun v => v.1) (fun _ => rfl) (JE.v (JE.of (t' := (atI p_8.1 (0 : Int))) (je_ix (fun x y => atI x y) o_ixT (JE.v (je_var (ea := (eT (eP6 eT1 eT1 eT1 eI eI eI))) (v := p_8.1) rfl)) (JE.v (je_cst (ea := eI) (v := 0) rfl))) (by simp only [ob1, ob2, ob3, ob4]))) (JE.of (je_cst (ea := eI) (v := 0) rfl) rfl)) (by simp only [ob1, ob2, ob3, ob4])) (je_cst (ea := eT1) (v := q_ra) rfl)) (by simp only [ob1, ob2, ob3, ob4])) (fun _ => jb_nm 9 _) (fun name_51 => (js_wk (c' := [.no, .rf kd, .va ((eT (eP6 eT1 eT1 eT1 eI eI eI)) p_8.1), .no, .no, .no, .no, .no, .no, .va (eT1 name_51), .no, .no, .no]) (.cons (.no _) (.cons (.eq _) (.cons (.eq _) (.cons (.no _) (.cons (.no _) (.cons (.no _) (.cons (.no _) (.cons (.no _) (.cons (.no _) (.cons (.eq _) (.cons (.no _) (.cons (.no _) (.cons (.no _) .nil))))))))))))) (js_ctx (C' := (CB S kd [.no, .rf kd, .va ((eT (eP6 eT1 eT1 eT1 eI eI eI)) p_8.1), .no, .no, .no, .no, .no, .no, .va (eT1 name_51), .no, .no, .no] d22)) rfl (js_asg (C' := fun wrong_53 => (CB S kd [.no, .rf kd, .va ((eT (eP6 eT1 eT1 eT1 eI eI eI)) p_8.1), .no, .no, .no, .no, .no, .no, .va (eT1 name_51), .va ((eL eR) wrong_53), .no, .no] d22)) (JE.of (t' := (some [(eN ()), ((eL (eP2 eT1 eI)) [(name_51, (5 : Int))]), ((eP1 (eP1 eT1)) ((name_51))), ((eP1 (eP2 eT1 eI)) ((q_zz, (5 : Int)))), ((eP1 (eP2 eT1 eI)) ((name_51, (0 : Int)))), ((eP1 (eP2 eT1 eI)) ((name_51, (61 : Int)))), ((eP2 (eP2 eT1 eI) (eP2 eT1 eI)) ((name_51, (5 : Int)), (name_51, (5 : Int)))), ((eP2 (eP2 eT1 eI) (eP2 eT1 eI)) ((name_51, (5 : Int)), (name_51, (6 : Int))))])) (je_lst (ec := (eL eR)) (ja_cons (JE.of (JE.enc (ea' := eR) (f := fun v => (eN v)) (je_cst (ea := eN) (v := ()) rfl) (fun _ => rfl)) rfl) (ja_cons (JE.of (JE.enc (ea' := eR) (f := fun v => ((eL (eP2 eT1 eI)) v)) (JE.of (je_lst (ec := (eL (eP2 eT1 eI))) (ja_cons (JE.of (je_tup (ec := (eP2 eT1 eI)) (ja_cons (je_var (ea := eT1) (v := name_51) rfl) (ja_cons (je_cst (ea := eI) (v := 5) rfl) ja_nil)) (fun v => (v.1, v.2.1)) (fun _ => ⟨rfl, rfl⟩)) rfl) ja_nil) (fun v => [v.1]) (fun _ => ⟨rfl, rfl⟩)) rfl) (fun _ => rfl)) rfl) (ja_cons (JE.of (JE.enc (ea' := eR) (f := fun v => ((eP1 (eP1 eT1)) v)) (JE.of (je_tup (ec := (eP1 (eP1 eT1))) (ja_cons (JE.of (je_tup (ec := (eP1 eT1)) (ja_cons (je_var (ea := eT1) (v := name_51) rfl) ja_nil) (fun v => (v.1)) (fun _ => ⟨rfl, rfl⟩)) rfl) ja_nil) (fun v => (v.1)) (fun _ => ⟨rfl, rfl⟩)) rfl) (fun _ => rfl)) rfl) (ja_cons (JE.of (JE.enc (ea' := eR) (f := fun v => ((eP1 (eP2 eT1 eI)) v)) (JE.of (je_tup (ec := (eP1 (eP2 eT1 eI))) (ja_cons (JE.of (je_tup (ec := (eP2 eT1 eI)) (ja_cons (je_cst (ea := eT1) (v := q_zz) rfl) (ja_cons (je_cst (ea := eI) (v := 5) rfl) ja_nil)) (fun v => (v.1, v.2.1)) (fun _ => ⟨rfl, rfl⟩)) rfl) ja_nil) (fun v => (v.1)) (fun _ => ⟨rfl, rfl⟩)) rfl) (fun _ => rfl)) rfl) (ja_cons (JE.of (JE.enc (ea' := eR) (f := fun v => ((eP1 (eP2 eT1 eI)) v)) (JE.of (je_tup (ec := (eP1 (eP2 eT1 eI))) (ja_cons (JE.of (je_tup (ec := (eP2 eT1 eI)) (ja_cons (je_var (ea := eT1) (v := name_51) rfl) (ja_cons (je_cst (ea := eI) (v := 0) rfl) ja_nil)) (fun v => (v.1, v.2.1)) (fun _ => ⟨rfl, rfl⟩)) rfl) ja_nil) (fun v => (v.1)) (fun _ => ⟨rfl, rfl⟩)) rfl) (fun _ => rfl)) rfl) (ja_cons (JE.of (JE.enc (ea' := eR) (f := fun v => ((eP1 (eP2 eT1 eI)) v)) (JE.of (je_tup (ec := (eP1 (eP2 eT1 eI))) (ja_cons (JE.of (je_tup (ec := (eP2 eT1 eI)) (ja_cons (je_var (ea := eT1) (v := name_51) rfl) (ja_cons (je_cst (ea := eI) (v := 61) rfl) ja_nil)) (fun v => (v.1, v.2.1)) (fun _ => ⟨rfl, rfl⟩)) rfl) ja_nil) (fun v => (v.1)) (fun _ => ⟨rfl, rfl⟩)) rfl) (fun _ => rfl)) rfl) (ja_cons (JE.of (JE.enc (ea' := eR) (f := fun v => ((eP2 (eP2 eT1 eI) (eP2 eT1 eI)) v)) (JE.of (je_tup (ec := (eP2 (eP2 eT1 eI) (eP2 eT1 eI))) (ja_cons (JE.of (je_tup (ec := (eP2 eT1 eI)) (ja_cons (je_var (ea := eT1) (v := name_51) rfl) (ja_cons (je_cst (ea := eI) (v := 5) rfl) ja_nil)) (fun v => (v.1, v.2.1)) (fun _ => ⟨rfl, rfl⟩)) rfl) (ja_cons (JE.of (je_tup (ec := (eP2 eT1 eI)) (ja_cons (je_var (ea := eT1) (v := name_51) rfl) (ja_cons (je_cst (ea := eI) (v := 5) rfl) ja_nil)) (fun v => (v.1, v.2.1)) (fun _ => ⟨rfl, rfl⟩)) rfl) ja_nil)) (fun v => (v.1, v.2.1)) (fun _ => ⟨rfl, rfl⟩)) rfl) (fun _ => rfl)) rfl) (ja_cons (JE.of (JE.enc (ea' := eR) (f := fun v => ((eP2 (eP2 eT1 eI) (eP2 eT1 eI)) v)) (JE.of (je_tup (ec := (eP2 (eP2 eT1 eI) (eP2 eT1 eI))) (ja_cons (JE.of (je_tup (ec := (eP2 eT1 eI)) (ja_cons (je_var (ea := eT1) (v := name_51) rfl) (ja_cons (je_cst (ea := eI) (v := 5) rfl) ja_nil)) (fun v => (v.1, v.2.1)) (fun _ => ⟨rfl, rfl⟩)) rfl) (ja_cons (JE.of (je_tup (ec := (eP2 eT1 eI)) (ja_cons (je_var (ea := eT1) (v := name_51) rfl) (ja_cons (je_cst (ea := eI) (v := 6) rfl) ja_nil)) (fun v => (v.1, v.2.1)) (fun _ => ⟨rfl, rfl⟩)) rfl) ja_nil)) (fun v => (v.1, v.2.1)) (fun _ => ⟨rfl, rfl⟩)) rfl) (fun _ => rfl)) rfl) ja_nil)))))))) (fun v => [v.1, v.2.1, v.2.2.1, v.2.2.2.1, v.2.2.2.2.1, v.2.2.2.2.2.1, v.2.2.2.2.2.2.1, v.2.2.2.2.2.2.2.1]) (fun _ => ⟨rfl, rfl⟩)) rfl) (fun _ => jb_nm 10 _) (fun wrong_53 => (js_wk (c' := [.no, .rf kd, .va ((eT (eP6 eT1 eT1 eT1 eI eI eI)) p_8.1), .no, .no, .no, .no, .no, .no, .no, .va ((eL eR) wrong_53), .no, .no]) (.cons (.no _) (.cons (.eq _) (.cons (.eq _) (.cons (.no _) (.cons (.no _) (.cons (.no _) (.cons (.no _) (.cons (.no _) (.cons (.no _) (.cons (.no _) (.cons (.eq _) (.cons (.no _) (.cons (.no _) .nil))))))))))))) (js_ctx (C' := (CB S kd [.no, .rf kd, .va ((eT (eP6 eT1 eT1 eT1 eI eI eI)) p_8.1), .no, .no, .no, .no, .no, .no, .no, .va ((eL eR) wrong_53), .no, .no] d22)) rfl (js_retX' (C := (CB S kd [.no, .rf kd, .va ((eT (eP6 eT1 eT1 eT1 eI eI eI)) p_8.1), .no, .no, .no, .no, .no, .no, .no, .va ((eL eR) wrong_53), .no, .no])) (jx_isB false (jx_call (jxa_cons (jx_e (je_var (ea := (eT (eP6 eT1 eT1 eT1 eI eI eI))) (v := p_8.1) rfl)) (fun (d58 : Dr) => (jxa_cons (jx_ix (ea := (eL eR)) (eb := eI) (ec := eR) (fun x y => atI x y) o_ixL (jx_e (je_var (ea := (eL eR)) (v := wrong_53) rfl)) (fun (d59 : Dr) => (jx_nxt (nx_at _ (by omega)) rfl hkd rfl hS (jx_e (je_cst (ea := eI) (v := 8) rfl))))) (fun (d61 : Dr) => jxa_nil)))) (m_are_delays _ (by omega)) (fun d => CB_flat hS d))))))))))))))))))))))))) rfl
theorem t_law (k : Nat) (hk : 8 ≤ k) (ns : List Int) : JG (F k) gam (CB [dO ⟨ns, 0, 0, 17⟩] 0 (.no :: .rf 0 :: List.replicate 11 .no) ⟨ns, 0, 0, 17⟩) (tailS b_law) (semR (fun r : Bool × Dr => eB r.1) fun r => [dO r.2]) (f_law ⟨ns, 0, 0, 17⟩) := t_law0 k hk [dO ⟨ns, 0, 0, 17⟩] 0 ⟨ns, 0, 0, 17⟩ (by simp) rfl
end KL

namespace KL
open PySem PySem.Spec PyProof.Rows L2 PV
abbrev RdR := SO × SO × SO × Int × Int × Int
abbrev FdR := List (SO × (Int × Int))
abbrev DlR := List (SO × Int)
structure GRs (rs : List RdR) : Prop where
  nd : (rs.map (·.1)).Nodup
  asc : (rs.map (·.1)).Pairwise (fun a b => ltS b a = false)
  el : ∀ r ∈ rs, 0 ≤ r.2.2.2.1 ∧ r.2.2.2.1 < r.2.2.2.2.1 ∧ r.2.2.2.2.1 ≤ 100 ∧ r.2.1 ≠ r.2.2.1
  len : rs.length ≤ 5
def nearP (ch : Int) (r o : RdR) : Bool := decide (o.2.2.1 = r.2.1) && (decide (ch ≤ r.2.2.2.1 - o.2.2.2.2.1) && decide (r.2.2.2.1 - o.2.2.2.2.1 ≤ 30))
def near (rs : List RdR) (ch : Int) (r : RdR) : List RdR := rs.filter (nearP ch r)
theorem inj_nm {rs : List RdR} (n : (rs.map (·.1)).Nodup) {r o : RdR} (hr : r ∈ rs) (ho : o ∈ rs) (e : o.1 = r.1) : o = r := by
  induction rs with
  | nil => cases hr
  | cons x rs ih =>
    rw [List.map_cons, List.nodup_cons] at n
    rcases List.mem_cons.mp hr with z1 | z1
    · rcases List.mem_cons.mp ho with z2 | z2
      · rw [z1, z2]
      · exact absurd (List.mem_map.mpr ⟨o, z2, e.trans (congrArg (fun y : RdR => y.1) z1)⟩) n.1
    · rcases List.mem_cons.mp ho with z2 | z2
      · exact absurd (List.mem_map.mpr ⟨r, z1, e.symm.trans (congrArg (fun y : RdR => y.1) z2)⟩) n.1
      · exact ih n.2 z1 z2
theorem first_r {r : RdR} : ∀ {rs : List RdR}, (rs.map (·.1)).Nodup → r ∈ rs → atI (List.map (fun x : RdR => x) (List.filter (fun x : RdR => decide (x.1 = r.1)) rs)) (0 : Int) = some r
  | [], _, h => by cases h
  | x :: ks, n, h => by
    rw [List.map_cons, List.nodup_cons] at n
    rw [List.filter_cons]
    rcases List.mem_cons.mp h with e | h
    · subst e
      simp
    · have ne : ¬ x.1 = r.1 := fun z => n.1 (by rw [z]; exact List.mem_map.mpr ⟨r, h, rfl⟩)
      simp only [ne, decide_false, Bool.false_eq_true, if_false]
      exact first_r n.2 h
theorem met_ok {rs : List RdR} (g : GRs rs) (ch : Int) {r : RdR} (hr : r ∈ rs) : f_met_by rs ch r.1 = some ((near rs ch r).map (·.1)) := by
  unfold f_met_by
  rw [first_r g.nd hr, ob1]
  have : List.filter (fun (other_3 : RdR) => ((!decide (other_3 = r)) && (f_is_met r other_3 ch))) rs = near rs ch r := by
    unfold near
    apply List.filter_congr
    intro o ho
    have e : f_is_met r o ch = nearP ch r o := rfl
    rw [e]
    by_cases c : o = r
    · subst c
      have := (g.el o hr).2.2.2
      have nn : nearP ch o o = false := by
        have t : ¬ o.2.2.1 = o.2.1 := fun z => this z.symm
        unfold nearP
        simp [t]
      rw [nn, Bool.and_false]
    · simp [c]
  rw [this]
def lateR (dl : DlR) (n : SO) : Int := (getM (mkM dl) n).getD 0
def valR (f : FdR) (n : SO) : Int × Int := (getM f n).getD (0, 0)
def gT (f : FdR) (ch lim : Int) (t : Int) (o : RdR) : Int := if (valR f o.1).2 + ch ≤ lim then (if (valR f o.1).2 + ch > t then (valR f o.1).2 + ch else t) else t
def TT (rs : List RdR) (ch : Int) (dl : DlR) (pat : Int) (f : FdR) (r : RdR) : Int := (near rs ch r).foldl (gT f ch (r.2.2.2.1 + pat)) (r.2.2.2.1 + lateR dl r.1)
def FP (rides : List RdR) (change : Int) (late_1 : DlR) (patience : Int) : Int × SO → FdR → Option FdR := (fun (x19 : (Int × SO)) (st18 : (List (SO × (Int × Int)))) => (Option.bind (atI (List.map (fun (one_21 : (SO × SO × SO × Int × Int × Int)) => one_21) (List.filter (fun (one_21 : (SO × SO × SO × Int × Int × Int)) => (decide (one_21.1 = x19.2))) rides)) (0 : Int)) fun ride_20 => (let true__22 : Int := (x19.1 + (Option.getD (getM late_1 x19.2) (0 : Int))); (Option.bind (Option.map (fun (v : (List SO)) => v) (f_met_by rides change x19.2)) fun xs40 => (Option.bind (forN (fun (other_31 : SO) (st30 : Int) => (Option.bind (Option.bind (Option.map (fun (v : (Int × Int)) => v.2) (getM st18 other_31)) fun x36 => (some (x36 + change))) fun least_35 => (some (if (decide (least_35 ≤ (x19.1 + patience))) = true then (let true__38 : Int := (if least_35 > st30 then least_35 else st30); true__38) else st30)))) xs40 true__22) fun st30 => (Option.bind (putO st18 x19.2 (st30, ((ride_20.2.2.2.2.1 + st30) - x19.1))) fun found_32 => (some found_32)))))))
def FW (rides : List RdR) (change : Int) (p_1 : FdR × DlR × Unit) (patience : Int) : Int × SO → FdR → Option FdR := (fun (x24 : (Int × SO)) (st23 : (List (SO × (Int × Int)))) => (Option.bind (atI (List.map (fun (ride_26 : (SO × SO × SO × Int × Int × Int)) => ride_26) (List.filter (fun (ride_26 : (SO × SO × SO × Int × Int × Int)) => (decide (ride_26.1 = x24.2))) rides)) (0 : Int)) fun own_25 => (let times_27 : (List Int) := [(x24.1 + (Option.getD (getM p_1.2.1 x24.2) (0 : Int)))]; (Option.bind (forN (fun (other_36 : (SO × SO × SO × Int × Int × Int)) (st35 : (List Int)) => (Option.bind (if (decide (other_36.2.2.1 = own_25.2.1)) = true then (if ((decide (change ≤ (x24.1 - other_36.2.2.2.2.1))) && (decide ((x24.1 - other_36.2.2.2.2.1) ≤ (30 : Int)))) = true then (Option.bind (Option.bind (Option.map (fun (v : (Int × Int)) => v.2) (getM st23 other_36.1)) fun x46 => (some (x46 + change))) fun x48 => (some (decide (x48 ≤ (x24.1 + patience))))) else some false) else some false) fun b56 => (if b56 = true then (Option.bind (Option.bind (Option.map (fun (v : (Int × Int)) => v.2) (getM st23 other_36.1)) fun x53 => (some (x53 + change))) fun y55 => (Option.bind (pshO st35 y55) fun times_52 => (some times_52))) else (some st35)))) rides times_27) fun st35 => (Option.bind (Option.bind (maxO st35) fun y41 => (Option.bind (Option.bind (Option.bind (maxO st35) fun y38 => (some (own_25.2.2.2.2.1 + y38))) fun x39 => (some (x39 - x24.1))) fun y42 => (some (y41, y42)))) fun y44 => (Option.bind (putO st23 x24.2 y44) fun found_43 => (some found_43)))))))
theorem fold_max (f : FdR) (ch lim : Int) : ∀ (os : List RdR) (t : Int), os.foldl (gT f ch lim) t = maxI t ((os.filter fun o => decide ((valR f o.1).2 + ch ≤ lim)).map fun o => (valR f o.1).2 + ch)
  | [], t => rfl
  | o :: os, t => by
    rw [List.foldl_cons, fold_max f ch lim os, List.filter_cons]
    unfold gT
    by_cases c : (valR f o.1).2 + ch ≤ lim
    · simp only [c, decide_true, if_true, List.map_cons]
      rw [maxI]
    · simp only [c, decide_false, if_false, Bool.false_eq_true]
theorem val_of {f : FdR} {n : SO} (h : (getM f n).isSome = true) : getM f n = some (valR f n) := by
  unfold valR
  cases hg : getM f n with
  | none => rw [hg] at h; cases h
  | some v => rfl
/-- a turn of the program's loop -/
theorem FP_ok {rs : List RdR} (g : GRs rs) {ch : Int} {dl : DlR} {pat : Int} {f : FdR} {r : RdR} (hr : r ∈ rs) (hf : ∀ o ∈ near rs ch r, (getM f o.1).isSome = true) (hl : f.length ≤ 1000) : FP rs ch (mkM dl) pat (r.2.2.2.1, r.1) f = some (putM f r.1 (TT rs ch dl pat f r, r.2.2.2.2.1 + TT rs ch dl pat f r - r.2.2.2.1)) := by
  unfold FP
  simp only
  rw [first_r g.nd hr, ob1, met_ok g ch hr, Option.map_some, ob1, forN_map]
  rw [forN_eq (g := gT f ch (r.2.2.2.1 + pat)) (fun xs _ => ∀ o ∈ xs, (getM f o.1).isSome = true) (fun o xs s h => ⟨by
    rw [val_of (h o List.mem_cons_self)]
    simp only [Option.map_some, ob1, gT, decide_eq_true_eq], fun y hy => h y (List.mem_cons_of_mem _ hy)⟩) _ _ hf, ob1, putO_ok (by omega), ob1]
  rfl
/-- .. of the law's -/
theorem FW_ok {rs : List RdR} (g : GRs rs) {ch : Int} {dl : DlR} {pat : Int} {f : FdR} {r : RdR} (hr : r ∈ rs) (hf : ∀ o ∈ near rs ch r, (getM f o.1).isSome = true) (hl : f.length ≤ 1000) : FW rs ch ([], mkM dl, ()) pat (r.2.2.2.1, r.1) f = some (putM f r.1 (TT rs ch dl pat f r, r.2.2.2.2.1 + TT rs ch dl pat f r - r.2.2.2.1)) := by
  have hm : ∀ t0 : Int, maxO ([t0] ++ rs.flatMap fun o => if (nearP ch r o && decide ((valR f o.1).2 + ch ≤ r.2.2.2.1 + pat)) = true then [(valR f o.1).2 + ch] else []) = some (maxI t0 (((near rs ch r).filter fun o => decide ((valR f o.1).2 + ch ≤ r.2.2.2.1 + pat)).map fun o => (valR f o.1).2 + ch)) := fun t0 => by
    rw [flat_if (fun o => nearP ch r o && decide ((valR f o.1).2 + ch ≤ r.2.2.2.1 + pat)) (fun o => (valR f o.1).2 + ch)]
    unfold near
    rw [List.filter_filter]
    rw [List.filter_congr (q := fun o => nearP ch r o && decide ((valR f o.1).2 + ch ≤ r.2.2.2.1 + pat)) (fun o _ => Bool.and_comm _ _)]
    rfl
  unfold FW
  simp only
  rw [first_r g.nd hr, ob1]
  rw [forN_flat (g := fun o => if (nearP ch r o && decide ((valR f o.1).2 + ch ≤ r.2.2.2.1 + pat)) = true then [(valR f o.1).2 + ch] else []) 1 rs (fun o ho s hs => by
    have hn : o ∈ near rs ch r ↔ nearP ch r o = true := by
      unfold near
      rw [List.mem_filter]
      exact ⟨fun z => z.2, fun z => ⟨ho, z⟩⟩
    by_cases c1 : o.2.2.1 = r.2.1
    · simp only [c1, decide_true, if_true]
      by_cases c2 : (decide (ch ≤ r.2.2.2.1 - o.2.2.2.2.1) && decide (r.2.2.2.1 - o.2.2.2.2.1 ≤ 30)) = true
      · have np : nearP ch r o = true := by unfold nearP; simp only [c1, decide_true, Bool.true_and, c2]
        rw [if_pos c2, val_of (hf o (hn.mpr np))]
        simp only [Option.map_some, ob1, np, Bool.true_and]
        by_cases c3 : (valR f o.1).2 + ch ≤ r.2.2.2.1 + pat
        · simp only [c3, decide_true, if_true]
          rw [pshO_ok (by omega), ob1]
        · simp only [c3, decide_false, Bool.false_eq_true, if_false, List.append_nil]
      · have np : nearP ch r o = false := by unfold nearP; simp only [c1, decide_true, Bool.true_and]; simpa using c2
        rw [if_neg c2]
        simp only [ob1, np, Bool.false_and, Bool.false_eq_true, if_false, List.append_nil]
    · have np : nearP ch r o = false := by unfold nearP; simp [c1]
      simp only [c1, decide_false, Bool.false_eq_true, if_false, ob1, np, Bool.false_and, List.append_nil]) (fun o _ => by split <;> simp) _ (by have := g.len; simp; omega), ob1]
  rw [hm]
  simp only [ob1]
  rw [putO_ok (by omega), ob1]
  unfold TT
  rw [fold_max]
  rfl
/-! both loops -/
structure IV (rs : List RdR) (dl : DlR) (rest : List (Int × SO)) (f : FdR) : Prop where
  nd : NdM f
  ks : ∀ q ∈ f, ∃ r ∈ rs, q.1 = r.1
  all : ∀ r ∈ rs, (r.2.2.2.1, r.1) ∈ rest ∨ (getM f r.1).isSome = true
  len : f.length + rest.length ≤ 1000
  std : dl = [] → ∀ q ∈ f, ∃ r ∈ rs, q = (r.1, (r.2.2.2.1, r.2.2.2.2.1))
theorem getM_put {κ υ : Type} [DecidableEq κ] (d : List (κ × υ)) (k : κ) (v : υ) (n : κ) (h : (getM d n).isSome = true ∨ n = k) : (getM (putM d k v) n).isSome = true := by
  cases hg : getM (putM d k v) n with
  | some _ => rfl
  | none =>
    exfalso
    rw [getM_none] at hg
    by_cases hk : getM d k = none
    · rw [putM_new hk] at hg
      rcases h with h | rfl
      · obtain ⟨w, hw⟩ := Option.isSome_iff_exists.mp h
        exact hg _ (List.mem_append_left _ (getM_mem hw)) rfl
      · exact hg (n, v) (by simp) rfl
    · rw [putM_keys hk] at hg
      have hn : (getM d n).isSome = true := by
        rcases h with h | rfl
        · exact h
        · exact Option.isSome_iff_ne_none.mpr hk
      obtain ⟨w, hw⟩ := Option.isSome_iff_exists.mp hn
      refine hg _ (List.mem_map.mpr ⟨_, getM_mem hw, rfl⟩) ?_
      split <;> rfl
theorem fold_std {f : FdR} {ch lim : Int} : ∀ (os : List RdR) (t : Int), (∀ o ∈ os, (valR f o.1).2 + ch ≤ t) → os.foldl (gT f ch lim) t = t
  | [], t, _ => rfl
  | o :: os, t, h => by
    have h0 := h o List.mem_cons_self
    rw [List.foldl_cons]
    have : gT f ch lim t o = t := by
      unfold gT
      split
      · rw [if_neg (by omega)]
      · rfl
    rw [this]
    exact fold_std os t fun y hy => h y (List.mem_cons_of_mem _ hy)
theorem loops {rs : List RdR} (g : GRs rs) {ch : Int} (hc : 0 ≤ ch) {dl : DlR} {pat : Int} : ∀ (rest : List (Int × SO)) (f : FdR), rest.Pairwise (fun a b => ltP2 ltI ltS b a = false) → (∀ p ∈ rest, ∃ r ∈ rs, p = (r.2.2.2.1, r.1)) → IV rs dl rest f → ∃ f', forN (FP rs ch (mkM dl) pat) rest f = some f' ∧ forN (FW rs ch ([], mkM dl, ()) pat) rest f = some f' ∧ IV rs dl [] f'
  | [], f, _, _, h => ⟨f, rfl, rfl, h⟩
  | p :: rest, f, hp, hr, h => by
    obtain ⟨r, r1, rfl⟩ := hr p List.mem_cons_self
    rw [List.pairwise_cons] at hp
    have hl := h.len
    rw [List.length_cons] at hl
    have hf : ∀ o ∈ near rs ch r, (getM f o.1).isSome = true := fun o ho => by
      unfold near at ho
      rw [List.mem_filter] at ho
      obtain ⟨o1, o2⟩ := ho
      have hlt : o.2.2.2.1 < r.2.2.2.1 := by
        have := g.el o o1
        unfold nearP at o2
        simp only [Bool.and_eq_true, decide_eq_true_eq] at o2
        omega
      rcases h.all o o1 with q | q
      · exfalso
        rcases List.mem_cons.mp q with e | q
        · have := congrArg Prod.fst e
          simp only at this
          omega
        · have := hp.1 _ q
          unfold ltP2 ltI at this
          simp only at this
          rw [if_neg (by omega)] at this
          simp at this
          omega
      · exact q
    have e1 := FP_ok g (ch := ch) (dl := dl) (pat := pat) r1 hf (by omega)
    have e2 := FW_ok g (ch := ch) (dl := dl) (pat := pat) r1 hf (by omega)
    obtain ⟨f', q1, q2, q3⟩ := loops g hc (dl := dl) (pat := pat) rest (putM f r.1 (TT rs ch dl pat f r, r.2.2.2.2.1 + TT rs ch dl pat f r - r.2.2.2.1)) hp.2 (fun p hp => hr p (List.mem_cons_of_mem _ hp)) ⟨h.nd.put _ _, fun q hq => by
      rcases putM_mem hq with rfl | hq
      · exact ⟨r, r1, rfl⟩
      · exact h.ks q hq, fun o ho => by
      rcases h.all o ho with q | q
      · rcases List.mem_cons.mp q with e | q
        · exact .inr (getM_put _ _ _ _ (.inr (congrArg Prod.snd e)))
        · exact .inl q
      · exact .inr (getM_put _ _ _ _ (.inl q)), by have := putM_len f r.1 (TT rs ch dl pat f r, r.2.2.2.2.1 + TT rs ch dl pat f r - r.2.2.2.1); omega, fun hd q hq => by
      rcases putM_mem hq with rfl | hq
      · refine ⟨r, r1, ?_⟩
        have ht : TT rs ch dl pat f r = r.2.2.2.1 := by
          unfold TT
          have l0 : lateR dl r.1 = 0 := by subst hd; rfl
          rw [l0, Int.add_zero]
          refine fold_std _ _ fun o ho => ?_
          have hs := hf o ho
          unfold near at ho
          rw [List.mem_filter] at ho
          obtain ⟨o1, o2⟩ := ho
          obtain ⟨o', o'1, eo⟩ := h.std hd _ (getM_mem (val_of hs))
          obtain ⟨en, ev⟩ := Prod.mk.inj eo
          have := inj_nm g.nd o'1 o1 en
          subst this
          rw [ev]
          unfold nearP at o2
          simp only [Bool.and_eq_true, decide_eq_true_eq] at o2
          simp only
          omega
        rw [ht]
        have : r.2.2.2.2.1 + r.2.2.2.1 - r.2.2.2.1 = r.2.2.2.2.1 := by omega
        rw [this]
      · exact h.std hd q hq⟩
    refine ⟨f', ?_, ?_, q3⟩
    · rw [forN, e1]
      exact q1
    · rw [forN, e2]
      exact q2
def SLR (rs : List RdR) : List (Int × SO) := srt (ltP2 ltI ltS) (rs.map fun r => (r.2.2.2.1, r.1))
theorem both_ok {rs : List RdR} (g : GRs rs) {ch : Int} (hc : 0 ≤ ch) (dl : DlR) (pat : Int) : ∃ f, f_run rs ch dl pat = some f ∧ f__law_true rs ch dl pat = some f ∧ IV rs dl [] f := by
  have mem : ∀ p, p ∈ SLR rs ↔ ∃ r ∈ rs, p = (r.2.2.2.1, r.1) := fun p => by
    unfold SLR
    rw [(srt_perm _).mem_iff, List.mem_map]
    exact ⟨fun ⟨r, h1, h2⟩ => ⟨r, h1, h2.symm⟩, fun ⟨r, h1, h2⟩ => ⟨r, h1, h2.symm⟩⟩
  have len : (SLR rs).length = rs.length := by
    unfold SLR
    rw [(srt_perm _).length_eq, List.length_map]
  have gl := g.len
  obtain ⟨f, e1, e2, h⟩ := loops g hc (dl := dl) (pat := pat) (SLR rs) [] (srt_pw (ord_P2 ord_I ord_S) _) (fun p hp => (mem p).mp hp) ⟨NdM.nil, (fun q hq => by cases hq), fun r hr => .inl ((mem _).mpr ⟨r, hr, rfl⟩), by rw [len]; simp; omega, fun _ q hq => by cases hq⟩
  refine ⟨f, ?_, ?_, h⟩
  · unfold f_run
    simp only
    refine (congrArg (fun z => Option.bind z _) e1).trans ?_
    rfl
  · unfold f__law_true
    simp only
    refine (congrArg (fun z => Option.bind z _) e2).trans ?_
    rfl
end KL

namespace KL
open PySem PySem.Spec PyProof.Rows L2 PV
theorem mapO_map {α β γ : Type} (h : α → β) (f : β → Option γ) : ∀ xs : List α, mapO f (xs.map h) = mapO (fun x => f (h x)) xs
  | [] => rfl
  | x :: xs => by rw [List.map_cons, mapO, mapO, mapO_map h f xs]
theorem filO_map {α β γ : Type} (h : α → β) (p : β → Option Bool) (f : β → Option γ) : ∀ xs : List α, filO p f (xs.map h) = filO (fun x => p (h x)) (fun x => f (h x)) xs
  | [] => rfl
  | x :: xs => by rw [List.map_cons, filO, filO, filO_map h p f xs]
theorem IV.all_in {rs : List RdR} {dl : DlR} {f : FdR} (h : IV rs dl [] f) {r : RdR} (hr : r ∈ rs) : getM f r.1 = some (valR f r.1) := by
  rcases h.all r hr with q | q
  · cases q
  · exact val_of q
theorem keys_ok {rs : List RdR} (g : GRs rs) {dl : DlR} {f : FdR} (h : IV rs dl [] f) : srtM ltS f = some (rs.map (·.1)) ∧ f.length = rs.length := by
  have p : (f.map (·.1)).Perm (rs.map (·.1)) := by
    refine (List.perm_ext_iff_of_nodup h.nd g.nd).mpr fun a => ⟨fun ha => ?_, fun ha => ?_⟩
    · obtain ⟨q, hq, rfl⟩ := List.mem_map.mp ha
      obtain ⟨r, hr, e⟩ := h.ks q hq
      exact List.mem_map.mpr ⟨r, hr, e.symm⟩
    · obtain ⟨r, hr, rfl⟩ := List.mem_map.mp ha
      exact List.mem_map.mpr ⟨_, getM_mem (h.all_in hr), rfl⟩
  have hl : f.length = rs.length := by
    have := p.length_eq
    rw [List.length_map, List.length_map] at this
    exact this
  have gl := g.len
  refine ⟨?_, hl⟩
  rw [srtM_def, if_pos (by omega), srt_eq ord_S p g.asc]
def ttR (f : FdR) (r : RdR) : SO × Int × Int := (r.1, (valR f r.1).1, (valR f r.1).2)
theorem times_ok {rs : List RdR} (g : GRs rs) {ch : Int} {dl : DlR} {pat : Int} {f : FdR} (e : f_run rs ch dl pat = some f) (h : IV rs dl [] f) : f_true_times rs ch dl pat = some (rs.map (ttR f)) := by
  unfold f_true_times
  rw [e, ob1, (keys_ok g h).1, Option.map_some, ob1, mapO_map]
  exact mapO_eq fun r hr => by rw [h.all_in hr]; rfl
theorem law_times {rs : List RdR} {dl : DlR} {f : FdR} (h : IV rs dl [] f) : (mapO (fun (ride_37 : (SO × SO × SO × Int × Int × Int)) => (Option.bind (getM f ride_37.1) fun y39 => (some ((ride_37.1), y39.1, y39.2)))) rs) = some (rs.map (ttR f)) := mapO_eq fun r hr => by rw [h.all_in hr]; rfl
def msR (rs : List RdR) (ch : Int) (f : FdR) (r : RdR) : List (SO × SO) := ((near rs ch r).filter fun o => decide ((valR f r.1).1 < (valR f o.1).2 + ch)).map fun o => (r.1, o.1)
theorem near_mem {rs : List RdR} {ch : Int} {r o : RdR} (h : o ∈ near rs ch r) : o ∈ rs := (List.mem_filter.mp h).1
theorem near_len (rs : List RdR) (ch : Int) (r : RdR) : (near rs ch r).length ≤ rs.length := List.length_filter_le _ _
theorem ms_len (rs : List RdR) (ch : Int) (f : FdR) (r : RdR) : (msR rs ch f r).length ≤ rs.length := by
  unfold msR
  rw [List.length_map]
  exact Nat.le_trans (List.length_filter_le _ _) (near_len _ _ _)
theorem flat_len {α β : Type} {g : α → List β} {m : Nat} : ∀ {xs : List α}, (∀ x ∈ xs, (g x).length ≤ m) → (xs.flatMap g).length ≤ xs.length * m
  | [], _ => by simp
  | x :: xs, h => by
    rw [List.flatMap_cons, List.length_append, List.length_cons, Nat.succ_mul]
    have h1 := h x List.mem_cons_self
    have h2 := flat_len (g := g) (m := m) (xs := xs) fun y hy => h y (List.mem_cons_of_mem _ hy)
    omega
theorem foldl_app {α β : Type} (g : α → List β) : ∀ (xs : List α) (s : List β), xs.foldl (fun s x => s ++ g x) s = s ++ xs.flatMap g
  | [], s => by simp
  | x :: xs, s => by rw [List.foldl_cons, foldl_app g xs, List.flatMap_cons, List.append_assoc]
theorem missed_ok {rs : List RdR} (g : GRs rs) {ch : Int} {dl : DlR} {pat : Int} {f : FdR} (e : f_run rs ch dl pat = some f) (h : IV rs dl [] f) : f_missed rs ch dl pat = some (rs.flatMap (msR rs ch f)) := by
  have gl := g.len
  unfold f_missed
  rw [e]
  simp only [ob1, (keys_ok g h).1, Option.map_some]
  rw [forN_map]
  have key := forN_eq (f := fun (r : RdR) (st5 : List (SO × SO)) => (Option.bind (Option.map (fun (v : (List SO)) => v) (f_met_by rs ch r.1)) fun xs18 => (Option.bind (forN ((fun (other_10 : SO) (st9 : (List (SO × SO))) => (Option.bind (Option.bind (Option.map (fun (v : (Int × Int)) => v.1) (getM f r.1)) fun x13 => (Option.bind (Option.bind (Option.map (fun (v : (Int × Int)) => v.2) (getM f other_10)) fun x11 => (some (x11 + ch))) fun y14 => (some (decide (x13 < y14))))) fun b17 => (if b17 = true then (Option.bind (pshO st9 (r.1, other_10)) fun rows_15 => (some rows_15)) else (some st9))))) xs18 st5) fun st9 => (some st9)))) (g := fun s r => s ++ msR rs ch f r) (fun xs s => s.length + 5 * xs.length ≤ 1000 ∧ ∀ r ∈ xs, r ∈ rs) (fun r xs s ⟨hs, hm⟩ => by
    rw [List.length_cons] at hs
    have hr := hm r List.mem_cons_self
    have ml := ms_len rs ch f r
    refine ⟨?_, by rw [List.length_append]; omega, fun y hy => hm y (List.mem_cons_of_mem _ hy)⟩
    rw [met_ok g ch hr, Option.map_some, ob1, forN_map]
    rw [forN_flat (g := fun o : RdR => if decide ((valR f r.1).1 < (valR f o.1).2 + ch) = true then [(r.1, o.1)] else []) 1 (near rs ch r) (fun o ho s hs => by
      rw [h.all_in hr, h.all_in (near_mem ho)]
      simp only [Option.map_some, ob1]
      by_cases c : (valR f r.1).1 < (valR f o.1).2 + ch
      · simp only [c, decide_true, if_true]
        rw [pshO_ok (by omega), ob1]
      · simp only [c, decide_false, Bool.false_eq_true, if_false, List.append_nil]) (fun o _ => by split <;> simp) s (by have := near_len rs ch r; omega), ob1]
    rw [flat_if (fun o : RdR => decide ((valR f r.1).1 < (valR f o.1).2 + ch)) (fun o => (r.1, o.1))]
    rfl) rs [] ⟨by simp; omega, fun r hr => hr⟩
  refine (congrArg (fun z => Option.bind z _) key).trans ?_
  rw [ob1, foldl_app]
  simp
/-- without delays all is as told -/
theorem std_times {rs : List RdR} (g : GRs rs) {f : FdR} (h : IV rs [] [] f) {r : RdR} (hr : r ∈ rs) : valR f r.1 = (r.2.2.2.1, r.2.2.2.2.1) := by
  obtain ⟨o, o1, eo⟩ := h.std rfl _ (getM_mem (h.all_in hr))
  obtain ⟨en, ev⟩ := Prod.mk.inj eo
  have := inj_nm g.nd o1 hr en
  subst this
  exact ev
theorem std_missed {rs : List RdR} (g : GRs rs) {ch : Int} {f : FdR} (h : IV rs [] [] f) : rs.flatMap (msR rs ch f) = [] := by
  rw [List.flatMap_eq_nil_iff]
  intro r hr
  unfold msR
  rw [List.map_eq_nil_iff, List.filter_eq_nil_iff]
  intro o ho
  rw [std_times g h hr, std_times g h (near_mem ho)]
  have := (List.mem_filter.mp ho).2
  unfold nearP at this
  simp only [Bool.and_eq_true, decide_eq_true_eq] at this
  simp only [decide_eq_true_eq]
  omega
/-! draws -/
def pre57 : List (List SO) := [[], [q_ra], [q_ra, q_rb], [q_ra, q_rb, q_rc], [q_ra, q_rb, q_rc, q_rd], [q_ra, q_rb, q_rc, q_rd, q_re]]
theorem pre_ok : ∀ p ∈ pre57, p.Nodup ∧ p.Pairwise (fun a b => ltS b a = false ∧ ltS a b = true) ∧ p.length ≤ 5 := by decide +kernel
def RB : SO → Dr × List RdR → Option (Dr × List RdR) := (fun (ride_33 : SO) (st29 : Dr × (List (SO × SO × SO × Int × Int × Int))) => (Option.bind (Option.bind (Nx st29.1 (3 : Int)) fun p => Option.map (fun (q : (Int × Unit) × Dr) => ((p.1, q.1), q.2)) ((fun (d35 : Dr) => (Option.bind (Nx d35 (20 : Int)) fun p => Option.map (fun (q : (Unit) × Dr) => ((p.1, q.1), q.2)) ((fun (d37 : Dr) => (Option.map (fun v => (v, d37)) (some ()))) p.2))) p.2)) fun p => (fun (p_38 : Int × Int × Unit) (d39 : Dr) => (Option.bind (Option.bind (Option.map (fun v => (v, d39)) (Option.map (fun xs => (List.map (fun (j_42 : Int) => j_42) (List.filter (fun (j_42 : Int) => (!decide (j_42 = p_38.1))) xs))) (rngO 0 (3 : Int)))) fun p => Option.bind ((fun (d41 : Dr) => (Nx d41 (2 : Int))) p.2) fun q => Option.map (fun z => (z, q.2)) (atI p.1 q.1)) fun p => (fun (other_40 : Int) (d44 : Dr) => (Option.bind (Option.map (fun (p : (SO × SO × SO × Int × Int × Int × Unit) × Dr) => ((fun v => (v.1, v.2.1, v.2.2.1, v.2.2.2.1, v.2.2.2.2.1, v.2.2.2.2.2.1)) p.1, p.2)) (Option.bind (some (ride_33, d44)) fun p => Option.map (fun (q : (SO × SO × Int × Int × Int × Unit) × Dr) => ((p.1, q.1), q.2)) ((fun (d47 : Dr) => (Option.bind (Option.map (fun v => (v, d47)) (atI [q_inn, q_port, q_spa] p_38.1)) fun p => Option.map (fun (q : (SO × Int × Int × Int × Unit) × Dr) => ((p.1, q.1), q.2)) ((fun (d48 : Dr) => (Option.bind (Option.map (fun v => (v, d48)) (atI [q_inn, q_port, q_spa] other_40)) fun p => Option.map (fun (q : (Int × Int × Int × Unit) × Dr) => ((p.1, q.1), q.2)) ((fun (d49 : Dr) => (Option.bind (some (p_38.2.1, d49)) fun p => Option.map (fun (q : (Int × Int × Unit) × Dr) => ((p.1, q.1), q.2)) ((fun (d50 : Dr) => (Option.bind (Option.bind (some ((p_38.2.1 + (1 : Int)), d50)) fun p => Option.bind ((fun (d51 : Dr) => (Nx d51 (9 : Int))) p.2) fun q => Option.map (fun z => (z, q.2)) (some (p.1 + q.1))) fun p => Option.map (fun (q : (Int × Unit) × Dr) => ((p.1, q.1), q.2)) ((fun (d53 : Dr) => (Option.bind (Option.bind (some ((1 : Int), d53)) fun p => Option.bind ((fun (d54 : Dr) => (Nx d54 (2 : Int))) p.2) fun q => Option.map (fun z => (z, q.2)) (some (p.1 + q.1))) fun p => Option.map (fun (q : (Unit) × Dr) => ((p.1, q.1), q.2)) ((fun (d56 : Dr) => (some ((), d56))) p.2))) p.2))) p.2))) p.2))) p.2))) p.2))) fun p => Option.bind (pshO st29.2 p.1) fun ys => (fun (found_45 : (List (SO × SO × SO × Int × Int × Int))) (d57 : Dr) => (some (d57, found_45))) ys p.2)) p.1 p.2)) p.1 p.2))
theorem places_ne : ∀ i ∈ rI 0 3, ∀ j ∈ rI 0 3, i ≠ j → ∀ a b, atI [q_inn, q_port, q_spa] i = some a → atI [q_inn, q_port, q_spa] j = some b → a ≠ b := by
  have h : ∀ i ∈ rI 0 3, ∀ j ∈ rI 0 3, i ≠ j → atI [q_inn, q_port, q_spa] i ≠ atI [q_inn, q_port, q_spa] j := by decide +kernel
  intro i hi j hj n a b ha hb e
  exact h i hi j hj n (by rw [ha, hb, e])
theorem two_ok : ∀ i ∈ rI 0 3, (List.filter (fun j : Int => !decide (j = i)) (rI 0 3)).length = 2 ∧ ∀ j ∈ List.filter (fun j : Int => !decide (j = i)) (rI 0 3), j ∈ rI 0 3 ∧ j ≠ i := by decide +kernel
theorem RB_ok (n : SO) (d : Dr) {found : List RdR} (hf : found.length ≤ 1000) : ∃ d' r, RB n (d, found) = some (d', found ++ [r]) ∧ r.1 = n ∧ 0 ≤ r.2.2.2.1 ∧ r.2.2.2.1 < r.2.2.2.2.1 ∧ r.2.2.2.2.1 ≤ 100 ∧ r.2.1 ≠ r.2.2.1 := by
  obtain ⟨r1, d1, e1, l1, u1⟩ := nx_ok d (m := 3) (by decide) (by decide)
  obtain ⟨r2, d2, e2, l2, u2⟩ := nx_ok d1 (m := 20) (by decide) (by decide)
  obtain ⟨r3, d3, e3, l3, u3⟩ := nx_ok d2 (m := 2) (by decide) (by decide)
  obtain ⟨r4, d4, e4, l4, u4⟩ := nx_ok d3 (m := 9) (by decide) (by decide)
  obtain ⟨r5, d5, e5, l5, u5⟩ := nx_ok d4 (m := 2) (by decide) (by decide)
  have m1 : r1 ∈ rI 0 3 := mem_rI.mpr ⟨l1, u1⟩
  obtain ⟨t1, t2⟩ := two_ok r1 m1
  obtain ⟨j, ej, _, hj⟩ := atI_get (xs := List.filter (fun j : Int => !decide (j = r1)) (rI 0 3)) l3 (by rw [t1]; exact u3)
  obtain ⟨j1, j2⟩ := t2 j hj
  obtain ⟨a, ea, _, _⟩ := atI_get (xs := [q_inn, q_port, q_spa]) l1 (by simpa using u1)
  have jb := mem_rI.mp j1
  obtain ⟨b, eb, _, _⟩ := atI_get (xs := [q_inn, q_port, q_spa]) jb.1 (by simpa using jb.2)
  have er : rngO 0 3 = some (rI 0 3) := rngO_ok (by decide) (by decide) (by decide) (by decide)
  unfold RB
  simp only [ob1, Option.map_some, e1, e2, e3, e4, e5, er, List.map_id', ej, ea, eb]
  rw [pshO_ok (by omega)]
  refine ⟨_, _, rfl, rfl, l2, by simp only; omega, by simp only; omega, ?_⟩
  exact places_ne r1 m1 j j1 (fun z => j2 z.symm) a b ea eb
theorem lrides_ok (d0 : Dr) : ∃ rs d', f__law_rides 5 d0 = some (rs, d') ∧ GRs rs ∧ rs.map (·.1) ∈ pre57 := by
  obtain ⟨k, d1, e1, l1, u1⟩ := nx_ok d0 (m := 5 + 1) (by decide) (by decide)
  have hc : ∃ p, cutG [q_ra, q_rb, q_rc, q_rd, q_re] none (some k) = p ∧ p ∈ pre57 := by
    have : k = 0 ∨ k = 1 ∨ k = 2 ∨ k = 3 ∨ k = 4 ∨ k = 5 := by omega
    rcases this with rfl | rfl | rfl | rfl | rfl | rfl
    · exact ⟨[], rfl, by unfold pre57; simp⟩
    · exact ⟨[q_ra], rfl, by unfold pre57; simp⟩
    · exact ⟨[q_ra, q_rb], rfl, by unfold pre57; simp⟩
    · exact ⟨[q_ra, q_rb, q_rc], rfl, by unfold pre57; simp⟩
    · exact ⟨[q_ra, q_rb, q_rc, q_rd], rfl, by unfold pre57; simp⟩
    · exact ⟨[q_ra, q_rb, q_rc, q_rd, q_re], rfl, by unfold pre57; simp⟩
  obtain ⟨p, hc, hp⟩ := hc
  obtain ⟨q1, q2, q3⟩ := pre_ok p hp
  obtain ⟨s', e2, h1, h2, h3⟩ := forN_ex (f := RB) (fun xs s => s.2.map (·.1) ++ xs = p ∧ (∀ r ∈ s.2, 0 ≤ r.2.2.2.1 ∧ r.2.2.2.1 < r.2.2.2.2.1 ∧ r.2.2.2.2.1 ≤ 100 ∧ r.2.1 ≠ r.2.2.1) ∧ s.2.length + xs.length ≤ 5) (fun x xs s ⟨h1, h2, h3⟩ => by
    rw [List.length_cons] at h3
    obtain ⟨d', r, w1, w2, w3⟩ := RB_ok x s.1 (found := s.2) (by omega)
    refine ⟨_, w1, by rw [← h1, List.map_append]; simp [w2], fun y hy => ?_, by rw [List.length_append]; simp; omega⟩
    rcases List.mem_append.mp hy with hy | hy
    · exact h2 y hy
    · simp at hy
      exact hy ▸ w3) p (d1, []) ⟨by simp, (fun r hr => by cases hr), by simp; omega⟩
  have en : s'.2.map (·.1) = p := by simpa using h1
  refine ⟨s'.2, s'.1, ?_, ⟨by rw [en]; exact q1, by rw [en]; exact q2.imp fun z => z.1, h2, by simpa using h3⟩, by rw [en]; exact hp⟩
  unfold f__law_rides
  simp only [ob1, Option.map_some, e1, hc]
  refine (congrArg (fun z => Option.bind z _) e2).trans ?_
  rfl
def DP : RdR → Dr → Option (Bool × Dr) := (fun (x13 : (SO × SO × SO × Int × Int × Int)) (d14 : Dr) => (Option.bind (Nx d14 (3 : Int)) fun p => Option.bind ((fun (d20 : Dr) => (some ((0 : Int), d20))) p.2) fun q => Option.map (fun z => (z, q.2)) (some (decide (p.1 = q.1)))))
def DG : RdR → Dr → Option ((SO × Int) × Dr) := (fun (x13 : (SO × SO × SO × Int × Int × Int)) (d14 : Dr) => (Option.map (fun (p : (SO × Int × Unit) × Dr) => ((fun v => (v.1, v.2.1)) p.1, p.2)) (Option.bind (some (x13.1, d14)) fun p => Option.map (fun (q : (Int × Unit) × Dr) => ((p.1, q.1), q.2)) ((fun (d16 : Dr) => (Option.bind (Option.bind (some ((1 : Int), d16)) fun p => Option.bind ((fun (d17 : Dr) => (Nx d17 (15 : Int))) p.2) fun q => Option.map (fun z => (z, q.2)) (some (p.1 + q.1))) fun p => Option.map (fun (q : (Unit) × Dr) => ((p.1, q.1), q.2)) ((fun (d19 : Dr) => (some ((), d19))) p.2))) p.2))))
theorem ldel_ok : ∀ (rs : List RdR) (d : Dr), ∃ dl d', filX DP DG rs d = some (dl, d') ∧ (dl.map (·.1)).Sublist (rs.map (·.1)) ∧ ∀ x ∈ dl, 1 ≤ x.2 ∧ x.2 ≤ 15
  | [], d => ⟨[], d, rfl, by simp, fun x hx => by cases hx⟩
  | r :: rs, d => by
    obtain ⟨r1, d1, e1, l1, u1⟩ := nx_ok d (m := 3) (by decide) (by decide)
    have hp : DP r d = some (decide (r1 = 0), d1) := by
      unfold DP
      simp only [ob1, Option.map_some, e1]
    cases hb : decide (r1 = 0) with
    | false =>
      obtain ⟨dl, d', e2, h1, h2⟩ := ldel_ok rs d1
      refine ⟨dl, d', ?_, ?_, h2⟩
      · rw [filX, hp, hb]
        exact e2
      · rw [List.map_cons]
        exact h1.cons _
    | true =>
      obtain ⟨r2, d2, e2, l2, u2⟩ := nx_ok d1 (m := 15) (by decide) (by decide)
      have hg : DG r d1 = some ((r.1, 1 + r2), d2) := by
        unfold DG
        simp only [ob1, Option.map_some, e2]
      obtain ⟨dl, d', e3, h1, h2⟩ := ldel_ok rs d2
      refine ⟨(r.1, 1 + r2) :: dl, d', ?_, ?_, fun x hx => ?_⟩
      · rw [filX, hp, hb]
        simp only [hg, e3]
      · rw [List.map_cons, List.map_cons]
        exact h1.cons₂ _
      · rcases List.mem_cons.mp hx with rfl | hx
        · exact ⟨by simp only; omega, by simp only; omega⟩
        · exact h2 x hx
theorem num_I {x : Int} {lo hi : Int} (h : lo ≤ x ∧ x ≤ hi) : f_is_number_vI x lo hi = true := by
  have hi' : f_is_integer_vI x = true := rfl
  unfold f_is_number_vI
  rw [hi']
  simp [h.1, h.2]
theorem cut_tail {α : Type} (xs : List α) : cutG xs (some (1 : Int)) none = xs.tail := by
  cases xs with
  | nil => rfl
  | cons x xs =>
    unfold cutG
    simp [HT.sIx]
theorem zip_pw {α : Type} {R : α → α → Prop} : ∀ {xs : List α}, xs.Pairwise R → ∀ q ∈ xs.zip xs.tail, R q.1 q.2
  | [], _, q, hq => by cases hq
  | [x], _, q, hq => by cases hq
  | x :: y :: xs, h, q, hq => by
    rw [List.pairwise_cons] at h
    rw [List.tail_cons, List.zip_cons_cons] at hq
    rcases List.mem_cons.mp hq with rfl | hq
    · exact h.1 y List.mem_cons_self
    · exact zip_pw h.2 q hq
theorem delays_ok {rs : List RdR} {dl : DlR} (hp : rs.map (·.1) ∈ pre57) (hs : (dl.map (·.1)).Sublist (rs.map (·.1))) (hd : ∀ x ∈ dl, 1 ≤ x.2 ∧ x.2 ≤ 15) : f_are_delays_vT rs dl = some true := by
  obtain ⟨q1, q2, q3⟩ := pre_ok _ hp
  have hl : dl.length ≤ 5 := by
    have := hs.length_le
    rw [List.length_map] at this
    omega
  have pw : dl.Pairwise (fun a b => ltS a.1 b.1 = true) := by
    have := (q2.imp (S := fun a b => ltS a b = true) fun z => z.2).sublist hs
    rwa [List.pairwise_map] at this
  unfold f_are_delays_vT
  simp only
  rw [if_neg (by simp; omega), forO_unit (fun x hx => by
    obtain ⟨h1, h2⟩ := hd x hx
    have hn : inB x.1 (rs.map (·.1)) = true := inB_iff.mpr (hs.subset (List.mem_map.mpr ⟨x, hx, rfl⟩))
    have hn' : inB x.1 (List.map (fun (ride_2 : (SO × SO × SO × Int × Int × Int)) => ride_2.1) rs) = true := hn
    rw [hn', num_I ⟨h1, by omega⟩]
    rfl)]
  simp only [ouK]
  unfold f_is_rising_vT
  rw [cut_tail, show zipO dl dl.tail = some (dl.zip dl.tail) by rw [zipO_def, if_pos (by omega)], Option.map_some, ob1]
  rw [List.all_map]
  have : (dl.zip dl.tail).all (id ∘ fun x1 : (SO × Int) × (SO × Int) => ltS x1.1.1 x1.2.1) = true := by
    rw [List.all_eq_true]
    intro q hq
    exact zip_pw pw q hq
  rw [this]
end KL

namespace KL
open PySem PySem.Spec PyProof.Rows L2 PV
def wrong57 : List PyData := [(eN ()), ((eL (eP2 eT1 eI)) [(q_ra, (5 : Int))]), ((eP1 (eP1 eT1)) ((q_ra))), ((eP1 (eP2 eT1 eI)) ((q_zz, (5 : Int)))), ((eP1 (eP2 eT1 eI)) ((q_ra, (0 : Int)))), ((eP1 (eP2 eT1 eI)) ((q_ra, (61 : Int)))), ((eP2 (eP2 eT1 eI) (eP2 eT1 eI)) ((q_ra, (5 : Int)), (q_ra, (5 : Int)))), ((eP2 (eP2 eT1 eI) (eP2 eT1 eI)) ((q_ra, (5 : Int)), (q_ra, (6 : Int))))]
theorem names_only (rs : List RdR) (w : PyData) : f_are_delays rs w = f_are_delays ((rs.map (·.1)).map fun n => (n, q_ra, q_ra, 0, 0, 0)) w := by
  have h : List.map (fun (ride_2 : (SO × SO × SO × Int × Int × Int)) => ride_2.1) ((rs.map (·.1)).map fun n => ((n, q_ra, q_ra, 0, 0, 0) : RdR)) = List.map (fun (ride_2 : (SO × SO × SO × Int × Int × Int)) => ride_2.1) rs := by
    rw [List.map_map, List.map_map]
    rfl
  unfold f_are_delays
  rw [h]
theorem wrong_pre : ∀ p ∈ pre57, ∀ w ∈ wrong57, f_are_delays (p.map fun n => (n, q_ra, q_ra, 0, 0, 0)) w = some false := by decide +kernel
theorem wrong_ok {rs : List RdR} (hp : rs.map (·.1) ∈ pre57) : ∀ w ∈ wrong57, f_are_delays rs w = some false := fun w hw => by
  rw [names_only]
  exact wrong_pre _ hp w hw
theorem pre_head : ∀ p ∈ pre57, p = [] ∨ p.head? = some q_ra := by decide +kernel
theorem name_is {rs : List RdR} (hp : rs.map (·.1) ∈ pre57) : (if (!decide (rs = [])) = true then (Option.map (fun (v : (SO × SO × SO × Int × Int × Int)) => v.1) (atI rs (0 : Int))) else (some q_ra)) = some q_ra := by
  cases rs with
  | nil => rfl
  | cons r rs =>
    have := pre_head _ hp
    simp at this
    simp [this]
def LW (p_8 : List RdR × Int × Int × Unit) (d22 : Dr) (p_23 : FdR × List (SO × SO) × Unit) : RdR → List (SO × SO) → Option (Ou (Bool × Dr) (List (SO × SO)) (List (SO × SO))) := (fun (ride_36 : (SO × SO × SO × Int × Int × Int)) (st35 : (List (SO × SO))) => (let near_64 : (List SO) := (List.map (fun (other_65 : (SO × SO × SO × Int × Int × Int)) => other_65.1) (List.filter (fun (other_65 : (SO × SO × SO × Int × Int × Int)) => ((decide (other_65.2.2.1 = ride_36.2.1)) && ((decide (p_8.2.1 ≤ (ride_36.2.2.2.1 - other_65.2.2.2.2.1))) && (decide ((ride_36.2.2.2.1 - other_65.2.2.2.2.1) ≤ (30 : Int)))))) p_8.1)); (Option.bind (Option.map (fun x => !x) (Option.bind (f_met_by p_8.1 p_8.2.1 ride_36.1) fun x66 => (sameO (eL eT1) 2 x66 near_64))) fun b76 => (if b76 = true then (Option.map .rt (some (false, d22))) else (Option.bind (Option.bind (filO (fun (name_69 : SO) => (Option.bind (Option.bind (Option.map (fun (v : (Int × Int)) => v.1) (getM p_23.1 ride_36.1)) fun x70 => (Option.bind (Option.map (fun (v : (Int × Int)) => v.2) (getM p_23.1 name_69)) fun y71 => (some (x70 - y71)))) fun x72 => (some (decide (x72 < p_8.2.1))))) (fun (name_69 : SO) => (some (ride_36.1, name_69))) near_64) fun y75 => (appO st35 y75)) fun rows_68 => (some (.nx rows_68)))))))
theorem LW_ok {rs : List RdR} (g : GRs rs) {ch pat : Int} {dl : DlR} {f : FdR} (h : IV rs dl [] f) (d : Dr) {r : RdR} (hr : r ∈ rs) {s : List (SO × SO)} (hs : s.length ≤ 1000) : LW (rs, ch, pat, ()) d (f, [], ()) r s = some (.nx (s ++ msR rs ch f r)) := by
  have gl := g.len
  have nl := near_len rs ch r
  have hn : List.map (fun (other_65 : (SO × SO × SO × Int × Int × Int)) => other_65.1) (List.filter (fun (other_65 : (SO × SO × SO × Int × Int × Int)) => ((decide (other_65.2.2.1 = r.2.1)) && ((decide (ch ≤ (r.2.2.2.1 - other_65.2.2.2.2.1))) && (decide ((r.2.2.2.1 - other_65.2.2.2.2.1) ≤ (30 : Int)))))) rs) = (near rs ch r).map (·.1) := rfl
  unfold LW
  simp only [hn, met_ok g ch hr, ob1]
  have s1 : sameO (eL eT1) 2 ((near rs ch r).map (·.1)) ((near rs ch r).map (·.1)) = some true := sameO_ok rfl (fit_L (by rw [List.length_map]; omega) fun x _ => fit_S 0 x)
  simp only [s1, Option.map_some, ob1, Bool.not_true, Bool.false_eq_true, if_false]
  rw [filO_map]
  rw [filO_eq (p' := fun o : RdR => decide ((valR f r.1).1 < (valR f o.1).2 + ch)) (g' := fun o : RdR => (r.1, o.1)) (fun o ho => ⟨by
    rw [h.all_in hr, h.all_in (near_mem ho)]
    simp only [Option.map_some, ob1, Option.some.injEq]
    rw [decide_eq_decide]
    omega, fun _ => rfl⟩), ob1]
  have ml := ms_len rs ch f r
  unfold msR at ml
  rw [appO_ok (by omega), ob1]
  rfl
theorem law_true (d0 : Dr) : ∃ d', f_law d0 = some (true, d') := by
  unfold f_law
  obtain ⟨rs, d1, e1, g, hp⟩ := lrides_ok d0
  obtain ⟨ch, d2, e2, l2, u2⟩ := nx_ok d1 (m := 4) (by decide) (by decide)
  obtain ⟨pat, d3, e3, l3, u3⟩ := nx_ok d2 (m := 12) (by decide) (by decide)
  obtain ⟨dl, d4, e4, hs, hd⟩ := ldel_ok rs d3
  obtain ⟨f, r1, r2, h⟩ := both_ok g l2 dl pat
  obtain ⟨f0, r3, r4, h0⟩ := both_ok g l2 [] pat
  have gl := g.len
  have t1 := times_ok g r1 h
  have t2 := missed_ok g r1 h
  have t3 := times_ok g r3 h0
  have t4 := missed_ok g r3 h0
  rw [std_missed g h0] at t4
  have t5 : rs.map (ttR f0) = List.map (fun (ride_45 : (SO × SO × SO × Int × Int × Int)) => (ride_45.1, ride_45.2.2.2.1, ride_45.2.2.2.2.1)) rs := by
    apply List.map_congr_left
    intro r hr
    unfold ttR
    rw [std_times g h0 hr]
  rw [t5] at t3
  simp only [ob1, Option.map_some, e1, e2, e3]
  refine (?_ : ∃ d', Option.bind (Option.bind (filX DP DG rs d3) _) _ = some (true, d'))
  rw [e4]
  simp only [ob1, Option.map_some, delays_ok hp hs hd, decide_true, Bool.not_true, Bool.false_eq_true, if_false, r2]
  have lw := forO_eq (f := LW (rs, ch, pat, ()) d4 (f, [], ())) (g := fun s r => s ++ msR rs ch f r) (fun xs s => s.length + 5 * xs.length ≤ 1000 ∧ ∀ r ∈ xs, r ∈ rs) (fun r xs s ⟨q1, q2⟩ => by
    rw [List.length_cons] at q1
    have ml := ms_len rs ch f r
    exact ⟨LW_ok g h d4 (q2 r List.mem_cons_self) (by omega), by rw [List.length_append]; omega, fun y hy => q2 y (List.mem_cons_of_mem _ hy)⟩) rs [] ⟨by simp; omega, fun r hr => hr⟩
  rw [foldl_app, List.nil_append] at lw
  have fin : ∀ (t : Option (Ou (Bool × Dr) Empty (List (SO × SO)))) (k : List (SO × SO) → Option (Bool × Dr)) (s : List (SO × SO)), t = some (.nx s) → (∃ d', k s = some (true, d')) → ∃ d', ouK t id k = some (true, d') := fun t k s h q => by rw [h]; exact q
  refine fin _ _ _ lw ?_
  have fl : (rs.flatMap (msR rs ch f)).length ≤ rs.length * 5 := flat_len fun r _ => Nat.le_trans (ms_len _ _ _ _) gl
  have s1 : sameO (eL (eP3 eT1 eI eI)) 3 (rs.map (ttR f)) (rs.map (ttR f)) = some true := sameO_ok rfl (fit_L (by rw [List.length_map]; omega) fun x _ => fit_P3 (fit_S 0 _) (fit_I 0 _) (fit_I 0 _))
  have s2 : sameO (eL (eP2 eT1 eT1)) 3 (rs.flatMap (msR rs ch f)) (rs.flatMap (msR rs ch f)) = some true := sameO_ok rfl (fit_L (by omega) fun x _ => fit_P2 (fit_S 0 _) (fit_S 0 _))
  simp only [t1, law_times h, ob1, s1, Option.map_some, Bool.not_true, Bool.false_eq_true, if_false, t2, s2, t3, t4, decide_true, name_is hp]
  obtain ⟨i, d5, e5, l5, u5⟩ := nx_ok d4 (m := 8) (by decide) (by decide)
  obtain ⟨w, ew, _, hw⟩ := atI_get (xs := wrong57) l5 (by exact u5)
  have f1 := wrong_ok hp w hw
  unfold wrong57 at ew
  simp only [ob1, e5, ew, Option.map_some, f1, decide_true]
  exact ⟨_, rfl⟩
theorem law_holds : ∀ ns : List Int, ns.length ≤ 63 → ∃ m S, (Ph gam ds 40)[14]? = some m ∧ m [.seq ns] [] = some (.d (.bool true), S) := fun ns _ => by
  obtain ⟨d', h⟩ := law_true ⟨ns, 0, 0, 17⟩
  exact law_end (n := 11) (f := 9) (b := b_law) rfl rfl rfl (t_law 39 (by decide) ns) h
end KL

namespace KL
open PySem PySem.Spec PyProof.Rows L2 PV
theorem all_mk {l : PySem.W.OpenLaw} {w : World} {K : PySem.W.Frag} {h : Heap} {mg : Str → Option Value} {fa f0 f1 f2 f3 f4 f5 f6 f7 f8 f9 f10 f11 f12 f13 f14 : Addr} (X : K.In h) (G : h.Ns mainGlobals mg) (hfa : mg "law" = some (.ref fa))
  {od0 an0 od1 an1 od2 an2 od3 an3 od4 an4 od5 an5 od6 an6 od7 an7 od8 an8 od9 an9 od10 an10 od11 an11 od12 an12 od13 an13 od14 an14 : Option Addr} {sl0 sl1 sl2 sl3 sl4 sl5 sl6 sl7 sl8 sl9 sl10 sl11 sl12 sl13 sl14 : Array (Option Value)} {oc0 kV0 dc0 pm0 cd0 ct0 oc1 kV1 dc1 pm1 cd1 ct1 oc2 kV2 dc2 pm2 cd2 ct2 oc3 kV3 dc3 pm3 cd3 ct3 oc4 kV4 dc4 pm4 cd4 ct4 oc5 kV5 dc5 pm5 cd5 ct5 oc6 kV6 dc6 pm6 cd6 ct6 oc7 kV7 dc7 pm7 cd7 ct7 oc8 kV8 dc8 pm8 cd8 ct8 oc9 kV9 dc9 pm9 cd9 ct9 oc10 kV10 dc10 pm10 cd10 ct10 oc11 kV11 dc11 pm11 cd11 ct11 oc12 kV12 dc12 pm12 cd12 ct12 oc13 kV13 dc13 pm13 cd13 ct13 oc14 kV14 dc14 pm14 cd14 ct14 : Value} {u0 : Nat}
  (a0 : PySem.W.nsIn K mainGlobals "is_integer" = some (some (.ref f0))) (l0 : K.lookup f0 = some ⟨oc0, od0, .func (PySem.W.fnOf "is_integer" "is_integer" (defArgs s_is_integer) (defBody s_is_integer) (defScope s_is_integer) .none kV0 dc0 pm0 an0 cd0 ct0), sl0⟩) (c0 : PySem.W.codeIn K cd0 "is_integer" = true) (k0 : PySem.W.keepIn K (.ref f0) = true)
(a1 : PySem.W.nsIn K mainGlobals "is_number" = some (some (.ref f1))) (l1 : K.lookup f1 = some ⟨oc1, od1, .func (PySem.W.fnOf "is_number" "is_number" (defArgs s_is_number) (defBody s_is_number) (defScope s_is_number) .none kV1 dc1 pm1 an1 cd1 ct1), sl1⟩) (c1 : PySem.W.codeIn K cd1 "is_number" = true) (k1 : PySem.W.keepIn K (.ref f1) = true)
(a2 : PySem.W.nsIn K mainGlobals "is_rising" = some (some (.ref f2))) (l2 : K.lookup f2 = some ⟨oc2, od2, .func (PySem.W.fnOf "is_rising" "is_rising" (defArgs s_is_rising) (defBody s_is_rising) (defScope s_is_rising) .none kV2 dc2 pm2 an2 cd2 ct2), sl2⟩) (c2 : PySem.W.codeIn K cd2 "is_rising" = true) (k2 : PySem.W.keepIn K (.ref f2) = true)
(a3 : PySem.W.nsIn K mainGlobals "are_delays" = some (some (.ref f3))) (l3 : K.lookup f3 = some ⟨oc3, od3, .func (PySem.W.fnOf "are_delays" "are_delays" (defArgs s_are_delays) (defBody s_are_delays) (defScope s_are_delays) .none kV3 dc3 pm3 an3 cd3 ct3), sl3⟩) (c3 : PySem.W.codeIn K cd3 "are_delays" = true) (k3 : PySem.W.keepIn K (.ref f3) = true)
(a4 : PySem.W.nsIn K mainGlobals "is_met" = some (some (.ref f4))) (l4 : K.lookup f4 = some ⟨oc4, od4, .func (PySem.W.fnOf "is_met" "is_met" (defArgs s_is_met) (defBody s_is_met) (defScope s_is_met) .none kV4 dc4 pm4 an4 cd4 ct4), sl4⟩) (c4 : PySem.W.codeIn K cd4 "is_met" = true) (k4 : PySem.W.keepIn K (.ref f4) = true)
(a5 : PySem.W.nsIn K mainGlobals "met_by" = some (some (.ref f5))) (l5 : K.lookup f5 = some ⟨oc5, od5, .func (PySem.W.fnOf "met_by" "met_by" (defArgs s_met_by) (defBody s_met_by) (defScope s_met_by) .none kV5 dc5 pm5 an5 cd5 ct5), sl5⟩) (c5 : PySem.W.codeIn K cd5 "met_by" = true) (k5 : PySem.W.keepIn K (.ref f5) = true)
(a6 : PySem.W.nsIn K mainGlobals "run" = some (some (.ref f6))) (l6 : K.lookup f6 = some ⟨oc6, od6, .func (PySem.W.fnOf "run" "run" (defArgs s_run) (defBody s_run) (defScope s_run) .none kV6 dc6 pm6 an6 cd6 ct6), sl6⟩) (c6 : PySem.W.codeIn K cd6 "run" = true) (k6 : PySem.W.keepIn K (.ref f6) = true)
(a7 : PySem.W.nsIn K mainGlobals "true_times" = some (some (.ref f7))) (l7 : K.lookup f7 = some ⟨oc7, od7, .func (PySem.W.fnOf "true_times" "true_times" (defArgs s_true_times) (defBody s_true_times) (defScope s_true_times) .none kV7 dc7 pm7 an7 cd7 ct7), sl7⟩) (c7 : PySem.W.codeIn K cd7 "true_times" = true) (k7 : PySem.W.keepIn K (.ref f7) = true)
(a8 : PySem.W.nsIn K mainGlobals "missed" = some (some (.ref f8))) (l8 : K.lookup f8 = some ⟨oc8, od8, .func (PySem.W.fnOf "missed" "missed" (defArgs s_missed) (defBody s_missed) (defScope s_missed) .none kV8 dc8 pm8 an8 cd8 ct8), sl8⟩) (c8 : PySem.W.codeIn K cd8 "missed" = true) (k8 : PySem.W.keepIn K (.ref f8) = true)
(a9 : PySem.W.nsIn K mainGlobals "_law_draw" = some (some (.ref f9))) (l9 : K.lookup f9 = some ⟨oc9, od9, .func (PySem.W.fnOf "_law_draw" "_law_draw" (defArgs s__law_draw) (defBody s__law_draw) (defScope s__law_draw) .none kV9 dc9 pm9 an9 cd9 ct9), sl9⟩) (c9 : PySem.W.codeIn K cd9 "_law_draw" = true) (k9 : PySem.W.keepIn K (.ref f9) = true)
(a10 : PySem.W.nsIn K mainGlobals "_law_next" = some (some (.ref f10))) (l10 : K.lookup f10 = some ⟨oc10, od10, .func (PySem.W.fnOf "_law_next" "_law_next" (defArgs s__law_next) (defBody s__law_next) (defScope s__law_next) .none kV10 dc10 pm10 an10 cd10 ct10), sl10⟩) (c10 : PySem.W.codeIn K cd10 "_law_next" = true) (k10 : PySem.W.keepIn K (.ref f10) = true)
(a11 : PySem.W.nsIn K mainGlobals "_law_same" = some (some (.ref f11))) (l11 : K.lookup f11 = some ⟨oc11, od11, .func (PySem.W.fnOf "_law_same" "_law_same" (defArgs s__law_same) (defBody s__law_same) (defScope s__law_same) .none kV11 dc11 pm11 an11 cd11 ct11), sl11⟩) (c11 : PySem.W.codeIn K cd11 "_law_same" = true) (k11 : PySem.W.keepIn K (.ref f11) = true)
(a12 : PySem.W.nsIn K mainGlobals "_law_rides" = some (some (.ref f12))) (l12 : K.lookup f12 = some ⟨oc12, od12, .func (PySem.W.fnOf "_law_rides" "_law_rides" (defArgs s__law_rides) (defBody s__law_rides) (defScope s__law_rides) .none kV12 dc12 pm12 an12 cd12 ct12), sl12⟩) (c12 : PySem.W.codeIn K cd12 "_law_rides" = true) (k12 : PySem.W.keepIn K (.ref f12) = true)
(a13 : PySem.W.nsIn K mainGlobals "_law_true" = some (some (.ref f13))) (l13 : K.lookup f13 = some ⟨oc13, od13, .func (PySem.W.fnOf "_law_true" "_law_true" (defArgs s__law_true) (defBody s__law_true) (defScope s__law_true) .none kV13 dc13 pm13 an13 cd13 ct13), sl13⟩) (c13 : PySem.W.codeIn K cd13 "_law_true" = true) (k13 : PySem.W.keepIn K (.ref f13) = true)
(a14 : PySem.W.nsIn K mainGlobals "law" = some (some (.ref f14))) (l14 : K.lookup f14 = some ⟨oc14, od14, .func (PySem.W.fnOf "law" "law" (defArgs s_law) (defBody s_law) (defScope s_law) .none kV14 dc14 pm14 an14 cd14 ct14), sl14⟩) (c14 : PySem.W.codeIn K cd14 "law" = true) (k14 : PySem.W.keepIn K (.ref f14) = true)
(e0 : PySem.W.nsIn K mainGlobals "LONGEST" = some (some (.int 30 u0)))
(z0 : PySem.W.nsIn K mainGlobals "len" = some none)
(z1 : PySem.W.nsIn K mainGlobals "sum" = some none)
(z2 : PySem.W.nsIn K mainGlobals "min" = some none)
(z3 : PySem.W.nsIn K mainGlobals "max" = some none)
(z4 : PySem.W.nsIn K mainGlobals "any" = some none)
(z5 : PySem.W.nsIn K mainGlobals "all" = some none)
(z6 : PySem.W.nsIn K mainGlobals "sorted" = some none)
(z7 : PySem.W.nsIn K mainGlobals "list" = some none)
(z8 : PySem.W.nsIn K mainGlobals "tuple" = some none)
(z9 : PySem.W.nsIn K mainGlobals "int" = some none)
(z10 : PySem.W.nsIn K mainGlobals "abs" = some none)
(z11 : PySem.W.nsIn K mainGlobals "isinstance" = some none)
(z12 : PySem.W.nsIn K mainGlobals "range" = some none)
(z13 : PySem.W.nsIn K mainGlobals "enumerate" = some none)
(z14 : PySem.W.nsIn K mainGlobals "zip" = some none)
(z15 : PySem.W.nsIn K mainGlobals "bool" = some none)
(z16 : PySem.W.nsIn K mainGlobals "str" = some none)
(z17 : PySem.W.nsIn K mainGlobals "dict" = some none)
(z18 : PySem.W.nsIn K mainGlobals "set" = some none)
  : ∃ fd : FuncData, (∀ (s : Shared) (v : Value), BindsTo s fd ⟨[v], []⟩ [("script", v)]) ∧ ∀ base : Heap, K.In base → base.Ns mainGlobals mg → FnOk l.prog w K mg base CX0 40 fa fd ["script"] (spL K) := by
  have e := hfa.symm.trans (PySem.W.mg_of X G a14)
  cases e
  have F0 := fun_mk (st := s_is_integer) l0 c0 k0
  have B0 : Binds K _ d_is_integer.ps [] := F0.binds (ps := d_is_integer.ps) fun _ _ _ _ _ _ us hl => match us, hl with | [_], _ => rfl
  have F1 := fun_mk (st := s_is_number) l1 c1 k1
  have B1 : Binds K _ d_is_number.ps [] := F1.binds (ps := d_is_number.ps) fun _ _ _ _ _ _ us hl => match us, hl with | [_, _, _], _ => rfl
  have F2 := fun_mk (st := s_is_rising) l2 c2 k2
  have B2 : Binds K _ d_is_rising.ps [] := F2.binds (ps := d_is_rising.ps) fun _ _ _ _ _ _ us hl => match us, hl with | [_], _ => rfl
  have F3 := fun_mk (st := s_are_delays) l3 c3 k3
  have B3 : Binds K _ d_are_delays.ps [] := F3.binds (ps := d_are_delays.ps) fun _ _ _ _ _ _ us hl => match us, hl with | [_, _], _ => rfl
  have F4 := fun_mk (st := s_is_met) l4 c4 k4
  have B4 : Binds K _ d_is_met.ps [] := F4.binds (ps := d_is_met.ps) fun _ _ _ _ _ _ us hl => match us, hl with | [_, _, _], _ => rfl
  have F5 := fun_mk (st := s_met_by) l5 c5 k5
  have B5 : Binds K _ d_met_by.ps [] := F5.binds (ps := d_met_by.ps) fun _ _ _ _ _ _ us hl => match us, hl with | [_, _, _], _ => rfl
  have F6 := fun_mk (st := s_run) l6 c6 k6
  have B6 : Binds K _ d_run.ps [] := F6.binds (ps := d_run.ps) fun _ _ _ _ _ _ us hl => match us, hl with | [_, _, _, _], _ => rfl
  have F7 := fun_mk (st := s_true_times) l7 c7 k7
  have B7 : Binds K _ d_true_times.ps [] := F7.binds (ps := d_true_times.ps) fun _ _ _ _ _ _ us hl => match us, hl with | [_, _, _, _], _ => rfl
  have F8 := fun_mk (st := s_missed) l8 c8 k8
  have B8 : Binds K _ d_missed.ps [] := F8.binds (ps := d_missed.ps) fun _ _ _ _ _ _ us hl => match us, hl with | [_, _, _, _], _ => rfl
  have F9 := fun_mk (st := s__law_draw) l9 c9 k9
  have B9 : Binds K _ d__law_draw.ps [] := F9.binds (ps := d__law_draw.ps) fun _ _ _ _ _ _ us hl => match us, hl with | [_], _ => rfl
  have F10 := fun_mk (st := s__law_next) l10 c10 k10
  have B10 : Binds K _ d__law_next.ps [] := F10.binds (ps := d__law_next.ps) fun _ _ _ _ _ _ us hl => match us, hl with | [_, _], _ => rfl
  have F11 := fun_mk (st := s__law_same) l11 c11 k11
  have B11 : Binds K _ d__law_same.ps [] := F11.binds (ps := d__law_same.ps) fun _ _ _ _ _ _ us hl => match us, hl with | [_, _], _ => rfl
  have F12 := fun_mk (st := s__law_rides) l12 c12 k12
  have B12 : Binds K _ d__law_rides.ps [] := F12.binds (ps := d__law_rides.ps) fun _ _ _ _ _ _ us hl => match us, hl with | [_, _], _ => rfl
  have F13 := fun_mk (st := s__law_true) l13 c13 k13
  have B13 : Binds K _ d__law_true.ps [] := F13.binds (ps := d__law_true.ps) fun _ _ _ _ _ _ us hl => match us, hl with | [_, _, _, _], _ => rfl
  have F14 := fun_mk (st := s_law) l14 c14 k14
  have B14 : Binds K _ d_law.ps [] := F14.binds (ps := d_law.ps) fun _ _ _ _ _ _ us hl => match us, hl with | [_], _ => rfl
  have hds : ∀ (i : Nat) (d : Df), ds[i]? = some d → Is K mg d := fun i d hd => by
    have hm : d ∈ ds := List.mem_of_getElem? hd
    unfold ds at hm
    simp only [List.mem_cons, List.not_mem_nil, or_false] at hm
    rcases hm with rfl | rfl | rfl | rfl | rfl | rfl | rfl | rfl | rfl | rfl | rfl | rfl | rfl | rfl | rfl
    · exact ⟨_, _, PySem.W.mg_of X G a0, F0, B0⟩
    · exact ⟨_, _, PySem.W.mg_of X G a1, F1, B1⟩
    · exact ⟨_, _, PySem.W.mg_of X G a2, F2, B2⟩
    · exact ⟨_, _, PySem.W.mg_of X G a3, F3, B3⟩
    · exact ⟨_, _, PySem.W.mg_of X G a4, F4, B4⟩
    · exact ⟨_, _, PySem.W.mg_of X G a5, F5, B5⟩
    · exact ⟨_, _, PySem.W.mg_of X G a6, F6, B6⟩
    · exact ⟨_, _, PySem.W.mg_of X G a7, F7, B7⟩
    · exact ⟨_, _, PySem.W.mg_of X G a8, F8, B8⟩
    · exact ⟨_, _, PySem.W.mg_of X G a9, F9, B9⟩
    · exact ⟨_, _, PySem.W.mg_of X G a10, F10, B10⟩
    · exact ⟨_, _, PySem.W.mg_of X G a11, F11, B11⟩
    · exact ⟨_, _, PySem.W.mg_of X G a12, F12, B12⟩
    · exact ⟨_, _, PySem.W.mg_of X G a13, F13, B13⟩
    · exact ⟨_, _, PySem.W.mg_of X G a14, F14, B14⟩
  have hb : Bs mg := fun x hx => by
    unfold bltNames at hx
    simp only [List.mem_cons, List.not_mem_nil, or_false] at hx
    rcases hx with rfl | rfl | rfl | rfl | rfl | rfl | rfl | rfl | rfl | rfl | rfl | rfl | rfl | rfl | rfl | rfl | rfl | rfl | rfl
    · exact PySem.W.mg_none_of X G z0
    · exact PySem.W.mg_none_of X G z1
    · exact PySem.W.mg_none_of X G z2
    · exact PySem.W.mg_none_of X G z3
    · exact PySem.W.mg_none_of X G z4
    · exact PySem.W.mg_none_of X G z5
    · exact PySem.W.mg_none_of X G z6
    · exact PySem.W.mg_none_of X G z7
    · exact PySem.W.mg_none_of X G z8
    · exact PySem.W.mg_none_of X G z9
    · exact PySem.W.mg_none_of X G z10
    · exact PySem.W.mg_none_of X G z11
    · exact PySem.W.mg_none_of X G z12
    · exact PySem.W.mg_none_of X G z13
    · exact PySem.W.mg_none_of X G z14
    · exact PySem.W.mg_none_of X G z15
    · exact PySem.W.mg_none_of X G z16
    · exact PySem.W.mg_none_of X G z17
    · exact PySem.W.mg_none_of X G z18
  have hg : Gs K mg gam gl := gs_of rfl fun i h1 h2 => by
    match i, h1, h2 with
    | 0, _, _ => exact gk_int (PySem.W.mg_of X G e0)
  exact ⟨PySem.W.fnOf "law" "law" (defArgs s_law) (defBody s_law) (defScope s_law) .none kV14 dc14 pm14 an14 cd14 ct14, fun s v => .of_eq rfl, fun base _ _ =>
    law_ok (i := 14) (d := d_law) (Γ := gam) (gl := gl) hds hb hg ag rfl rfl F14 (PySem.W.mg_of X G a14) law_holds⟩
end KL
open PySem PySem.W PyProof.Rows
set_option maxHeartbeats 0 in
theorem PySem.Challenge.cw_hoteldays_k57_whole_connections_that_are_holds : PySem.Challenge.rw_hoteldays_k57_whole_connections_that_are.Holds := by
  w_on; o_law; k_head; (case hw => w_witness2)
  k_fill
  refine L2.walk_of (l := PySem.Challenge.rw_hoteldays_k57_whole_connections_that_are) (n := 63) (k := 40) (x := "script") (CX := fun _ => L2.CX0) (sp := fun w => PV.spL _) rfl (by decide) rfl ⟨rfl, by decide, by decide⟩ (fun w h Y => PySem.W.kIn_of Y) ?F (fun _ _ a ns hl _ hS => ⟨a, ns, rfl, hS, hl, fun _ => rfl⟩) (fun _ _ _ _ _ h => h)
  case F =>
    intro w mg fa h KX G hmg
    refine' KL.all_mk KX G hmg ?a0 ?l0 ?c0 ?k0 ?a1 ?l1 ?c1 ?k1 ?a2 ?l2 ?c2 ?k2 ?a3 ?l3 ?c3 ?k3 ?a4 ?l4 ?c4 ?k4 ?a5 ?l5 ?c5 ?k5 ?a6 ?l6 ?c6 ?k6 ?a7 ?l7 ?c7 ?k7 ?a8 ?l8 ?c8 ?k8 ?a9 ?l9 ?c9 ?k9 ?a10 ?l10 ?c10 ?k10 ?a11 ?l11 ?c11 ?k11 ?a12 ?l12 ?c12 ?k12 ?a13 ?l13 ?c13 ?k13 ?a14 ?l14 ?c14 ?k14 ?e0 ?z0 ?z1 ?z2 ?z3 ?z4 ?z5 ?z6 ?z7 ?z8 ?z9 ?z10 ?z11 ?z12 ?z13 ?z14 ?z15 ?z16 ?z17 ?z18
    (case a0 => k_is); (case l0 => k_is); (case c0 => k_is); (case k0 => k_is)
    (case a1 => k_is); (case l1 => k_is); (case c1 => k_is); (case k1 => k_is)
    (case a2 => k_is); (case l2 => k_is); (case c2 => k_is); (case k2 => k_is)
    (case a3 => k_is); (case l3 => k_is); (case c3 => k_is); (case k3 => k_is)
    (case a4 => k_is); (case l4 => k_is); (case c4 => k_is); (case k4 => k_is)
    (case a5 => k_is); (case l5 => k_is); (case c5 => k_is); (case k5 => k_is)
    (case a6 => k_is); (case l6 => k_is); (case c6 => k_is); (case k6 => k_is)
    (case a7 => k_is); (case l7 => k_is); (case c7 => k_is); (case k7 => k_is)
    (case a8 => k_is); (case l8 => k_is); (case c8 => k_is); (case k8 => k_is)
    (case a9 => k_is); (case l9 => k_is); (case c9 => k_is); (case k9 => k_is)
    (case a10 => k_is); (case l10 => k_is); (case c10 => k_is); (case k10 => k_is)
    (case a11 => k_is); (case l11 => k_is); (case c11 => k_is); (case k11 => k_is)
    (case a12 => k_is); (case l12 => k_is); (case c12 => k_is); (case k12 => k_is)
    (case a13 => k_is); (case l13 => k_is); (case c13 => k_is); (case k13 => k_is)
    (case a14 => k_is); (case l14 => k_is); (case c14 => k_is); (case k14 => k_is)
    (case e0 => k_is)
    (case z0 => k_is)
    (case z1 => k_is)
    (case z2 => k_is)
    (case z3 => k_is)
    (case z4 => k_is)
    (case z5 => k_is)
    (case z6 => k_is)
    (case z7 => k_is)
    (case z8 => k_is)
    (case z9 => k_is)
    (case z10 => k_is)
    (case z11 => k_is)
    (case z12 => k_is)
    (case z13 => k_is)
    (case z14 => k_is)
    (case z15 => k_is)
    (case z16 => k_is)
    (case z17 => k_is)
    (case z18 => k_is)

