import PyProof.Rows.All
import Wide.All
import OpenK.AllK
import Wide.FinOn
import HandS.ForMost
import HandS.Walk
import HandS.TupAny
import HandS.TupMul
import HandS.TupLe
import HandS.Deep
import HandS.IsInst
import HandS.Style
import HandS.Flow
import HandS.Zip
import HandS.Conv
import KE.SortData
import KE.GoesNew
import KE.GoesEnum
import PySem.Challenge.RW_hoteldays_k49_whole_books_that_quarrel
set_option Elab.async false
set_option linter.all false
set_option maxRecDepth 100000
/-! PV1: a small language of pure data over the hand layer: values, store, terms, their evaluator, the look that holds a term against the text. -/
namespace PV
open PySem PySem.Spec PyProof.Rows L2

/-! ### values and store -/
inductive A where
  | d (x : PyData) | obj (k : Nat) | pr (a b : A) | seq (ns : List Int)
inductive Ob where
  | lst (xs : List PyData) (fz : Bool)
  | dic (t : Bool) (kvs : List (PyData × PyData)) (fz : Nat)
  | ins (c : Nat) (fs : List (Str × A))
abbrev Sto := List Ob
abbrev En := List (Option A)
abbrev Fs := List A → Sto → Option (A × Sto)
def Ob.flat : Ob → Bool
  | .ins _ fs => fs.all fun p => match p.2 with | .d _ => true | _ => false
  | _ => true
/-- behind a call that hands back plain data: what it made for itself is forgotten -/
def gc (r : A) (S1 S2 : Sto) : Sto := match r with
  | .d _ => if (S2.take S1.length).all Ob.flat = true then S2.take S1.length else S2
  | _ => S2
def deref (S : Sto) : A → Option PyData
  | .d x => some x
  | .obj k => match S[k]? with
    | some (.lst xs _) => some (.list xs)
    | some (.dic _ kvs _) => some (.dict kvs)
    | _ => none
  | _ => none
def frz (S : Sto) : A → Option (PyData × Sto)
  | .d x => some (x, S)
  | .obj k => match S[k]? with
    | some (.lst xs _) => some (.list xs, S.set k (.lst xs true))
    | _ => none
  | _ => none
def frzAll : List A → Sto → Option (List PyData × Sto)
  | [], S => some ([], S)
  | a :: as, S => match frz S a with
    | none => none
    | some (x, S1) => match frzAll as S1 with
      | none => none
      | some (xs, S2) => some (x :: xs, S2)
/-- its truth -/
def truD : PyData → Option Bool
  | .none => some false
  | .bool b => some b
  | .int i => some (i != 0)
  | .str x => if x.length ≤ 16777216 then some (x.length != 0) else none
  | .list xs => some (!xs.isEmpty)
  | .tuple xs => some (!xs.isEmpty)
  | .dict _ => none
def tru (S : Sto) (a : A) : Option Bool := (deref S a).bind truD

/-! ### terms -/
inductive Bl where
  | len | sum | mn | mx | any | all | sorted | list | tuple | int | abs
  deriving DecidableEq
inductive Ty where
  | bool | int | str | list | tuple
  deriving DecidableEq
mutual
inductive Ex where
  | var (i : Nat) | cst (c : PyData) | glb (i : Nat)
  | tup (es : Exs) | lst (es : Exs) | fresh (e : Ex)
  | bin (o : Operator) (a b : Ex) | neg (a : Ex)
  | cmp (o : CmpOp) (a b : Ex) | chn (o p : CmpOp) (a b c : Ex)
  | and (es : Exs) | or (es : Exs) | not (a : Ex) | ite (t a b : Ex)
  | ix (a i : Ex) | slc (a : Ex) (lo hi : Exs)
  | call (f : Nat) (es : Exs) | blt (b : Bl) (es : Exs) | isi (a : Ex) (ts : List Ty)
  | comp (t : Tg) (it : Itx) (ifs : Exs) (e : Ex)
  | lrg (a : Ex)
inductive Exs where
  | nil | cons (e : Ex) (es : Exs)
inductive Tg where
  | nm (i : Nat) | tp (ts : Tgs) | sub (o i : Ex)
inductive Tgs where
  | nil | cons (t : Tg) (ts : Tgs)
inductive Itx where
  | seq (e : Ex) | rng (a : Ex) | rng2 (a b : Ex) | enm (e : Ex) | zip (a b : Ex)
end
mutual
inductive Sx where
  | asg (t : Tg) (e : Ex) | par (ts : Tgs) (es : Exs)
  | app (o e : Ex) | ifs (t : Ex) (a b : Ss)
  | for_ (t : Tg) (it : Itx) (b : Ss) (wl : List Nat) | whl (n : Nat) (t : Ex) (b : Ss) (wl : List Nat)
  | ret (e : Ex) | retO (e : Ex) | ret0 | exp (e : Ex) | brk | cnt | pas
inductive Ss where
  | nil | cons (s : Sx) (ss : Ss)
end
inductive Fl where
  | nx | rt (a : A) | bk | ct

/-! ### what the operations do -/
mutual
def noDic : PyData → Bool
  | .list xs => noDics xs
  | .tuple xs => noDics xs
  | .dict _ => false
  | _ => true
def noDics : List PyData → Bool
  | [] => true
  | x :: xs => noDic x && noDics xs
end
def atomD : PyData → Bool
  | .none => true
  | .bool _ => true
  | .int _ => true
  | .str _ => true
  | _ => false
def okEq (x y : PyData) : Bool := (atomD x && atomD y) || (SeqAt.shaped x && SeqAt.shaped y)
def eqvD (x y : PyData) : Option Bool := if okEq x y = true then some (PyData.eqv x y) else none
mutual
/-- x < y, of data that are alike -/
def ltB : PyData → PyData → Bool
  | .int a, y => match y with | .int b => decide (a < b) | _ => false
  | .bool a, y => match y with | .bool b => !a && b | _ => false
  | .str a, y => match y with | .str b => decide (a.cps.toList < b.cps.toList) | _ => false
  | .tuple xs, y => match y with | .tuple ys => ltBs xs ys | _ => false
  | .list xs, y => match y with | .list ys => ltBs xs ys | _ => false
  | .none, _ => false
  | .dict _, _ => false
def ltBs : List PyData → List PyData → Bool
  | [], ys => !ys.isEmpty
  | x :: xs, ys => match ys with
    | [] => false
    | y :: ys => if PyData.eqv x y = true then ltBs xs ys else ltB x y
end
def notNone : PyData → Bool
  | .none => false
  | _ => true
def okLt (x y : PyData) : Bool := PySem.W.alike x y && noDic x && noDic y && notNone x && decide (x.depth ≤ 32)
def ltD (x y : PyData) : Option Bool := if okLt x y = true then some (ltB x y) else none
def cutG {α : Type} (xs : List α) (lo hi : Option Int) : List α := (xs.drop (HT.sIx xs.length 0 lo)).take (HT.sIx xs.length xs.length hi - HT.sIx xs.length 0 lo)
def mulOk (i j : Int) : Bool := decide ((-(2 ^ 64) < i ∧ i < 2 ^ 64) ∨ (-(2 ^ 64) < j ∧ j < 2 ^ 64))
def binI (o : Operator) (i j : Int) : Option Int := match o with
  | .Add => some (i + j)
  | .Sub => some (i - j)
  | .Mult => if mulOk i j = true then some (i * j) else none
  | .Mod => if j ≠ 0 then some (i.fmod j) else none
  | .FloorDiv => if j ≠ 0 ∧ j.natAbs < 1073741824 then some (i.fdiv j) else none
  | .Pow => if 0 ≤ j ∧ j ≤ 1000000 ∧ i.natAbs < 2 ^ 64 then some (i ^ j.toNat) else none
  | _ => none
def binD (o : Operator) : PyData → PyData → Option PyData
  | .int i, .int j => (binI o i j).map .int
  | .str x, .str y => if o = .Add ∧ x.length + y.length ≤ 16777216 then some (.str (x ++ y)) else none
  | .list xs, .list ys => if o = .Add ∧ xs.length + ys.length ≤ 16777216 then some (.list (xs ++ ys)) else none
  | .tuple xs, .tuple ys => if o = .Add ∧ xs.length + ys.length ≤ 16777216 then some (.tuple (xs ++ ys)) else none
  | .list xs, .int k => if o = .Mult ∧ -(2 ^ 63) ≤ k ∧ k < 2 ^ 63 ∧ xs.length * k.toNat ≤ 16777216 then some (.list (List.replicate k.toNat xs).flatten) else none
  | .tuple xs, .int k => if o = .Mult ∧ xs ≠ [] ∧ 2 ≤ k ∧ k ≤ 1000 ∧ xs.length ≤ 1000 then some (.tuple (List.replicate k.toNat xs).flatten) else none
  | _, _ => none
def binF (o : Operator) (a b : A) (S : Sto) : Option A := match deref S a, deref S b with
  | some x, some y => (binD o x y).map .d
  | _, _ => none
def okIn (x : PyData) (ds : List PyData) : Bool := (atomD x && ds.all atomD) || (SeqAt.shaped x && SeqAt.shaped (.list ds))
def inD (x : PyData) : PyData → Option Bool
  | .list ds => if okIn x ds = true then some (ds.any fun z => PyData.eqv z x) else none
  | .tuple ds => if okIn x ds = true then some (ds.any fun z => PyData.eqv z x) else none
  | .str z => match x with | .str y => some (!(Builtin.Str.occurrences z y 0 z.length 1).isEmpty) | _ => none
  | _ => none
def isD : A → PyData → Option Bool
  | .d .none, .none => some true
  | .d (.bool a), .bool b => some (decide (a = b))
  | _, .none => some false
  | _, _ => none
def cmpD (o : CmpOp) (x y : PyData) : Option Bool := match o with
  | .Eq => eqvD x y
  | .NotEq => (eqvD x y).map (!·)
  | .Lt => ltD x y
  | .LtE => match x, y with | .int i, .int j => some (decide (i ≤ j)) | _, _ => none
  | .Gt => match x, y with | .int i, .int j => some (decide (j < i)) | _, _ => none
  | .GtE => match x, y with | .int i, .int j => some (decide (j ≤ i)) | _, _ => none
  | .In => inD x y
  | .NotIn => (inD x y).map (!·)
  | _ => none
def cmpF (o : CmpOp) (a b : A) (S : Sto) : Option Bool := match o with
  | .Is => match b with | .d y => isD a y | _ => none
  | .IsNot => match b with | .d y => (isD a y).map (!·) | _ => none
  | o => match deref S a, deref S b with
    | some x, some y => cmpD o x y
    | _, _ => none
def ixD : PyData → PyData → Option PyData
  | .list xs, .int i => atI xs i
  | .tuple xs, .int i => atI xs i
  | .str z, .int i => if z.length ≤ 16777216 then (atI z.cps.toList i).map fun c => .str ⟨#[c]⟩ else none
  | _, _ => none
def ixF (a b : A) (S : Sto) : Option A := match a, b with
  | .pr x y, .d (.int i) => if i = 0 then some x else if i = 1 then some y else none
  | a, b => match deref S a, deref S b with
    | some x, some i => (ixD x i).map .d
    | _, _ => none
def slcD (x : PyData) (lo hi : Option Int) : Option PyData := match x with
  | .list xs => some (.list (cutG xs lo hi))
  | .tuple xs => some (.tuple (cutG xs lo hi))
  | .str z => if z.length ≤ 16777216 then some (.str (cutS z lo hi)) else none
  | _ => none
def intsD : List PyData → Option (List Int)
  | [] => some []
  | .int i :: r => (intsD r).map (i :: ·)
  | _ => none
def boolsD : List PyData → Option (List Bool)
  | [] => some []
  | .bool b :: r => (boolsD r).map (b :: ·)
  | _ => none
/-- the first of the least: min(xs) -/
def minD : PyData → List PyData → Option PyData
  | m, [] => some m
  | m, x :: xs => match ltD x m with
    | none => none
    | some true => minD x xs
    | some false => minD m xs
/-- the greatest of ints -/
def maxI : Int → List Int → Int
  | m, [] => m
  | m, x :: xs => maxI (if m < x then x else m) xs
def alikeRow : List PyData → Bool
  | [] => true
  | x :: xs => xs.all (fun y => PySem.W.alike x y && PySem.W.alike y x) && PySem.W.alike x x && alikeRow xs
def isTupD : PyData → Bool
  | .tuple xs => !xs.isEmpty
  | _ => false
def noTupD : PyData → Bool
  | .tuple _ => false
  | .none => false
  | _ => true
def sortD (xs : List PyData) : Option (List PyData) := if alikeRow xs = true ∧ noDics xs = true ∧ (xs.all isTupD || xs.all noTupD) = true ∧ (xs.all fun x => decide (x.depth ≤ 32)) = true then some (xs.mergeSort fun x y => !ltB y x) else none
def lenD : PyData → Option Int
  | .list xs => some xs.length
  | .tuple xs => some xs.length
  | .str z => if z.length ≤ 16777216 then some z.length else none
  | _ => none
def bltD (b : Bl) (x : PyData) : Option PyData := match b with
  | .len => (lenD x).map .int
  | .sum => match x with
    | .list xs => (intsD xs).map fun ns => .int ns.sum
    | _ => none
  | .mn => match x with
    | .list (x :: xs) => minD x xs
    | _ => none
  | .mx => match x with
    | .list xs => match intsD xs with
      | some (n :: ns) => some (.int (maxI n ns))
      | _ => none
    | _ => none
  | .any => match x with
    | .list xs => (boolsD xs).map fun bs => .bool (bs.any id)
    | _ => none
  | .all => match x with
    | .list xs => (boolsD xs).map fun bs => .bool (bs.all id)
    | _ => none
  | .sorted => match x with
    | .list xs => (sortD xs).map .list
    | _ => none
  | .list => match x with
    | .list xs => some (.list xs)
    | .tuple xs => some (.list xs)
    | _ => none
  | .tuple => match x with
    | .list xs => some (.tuple xs)
    | .tuple xs => some (.tuple xs)
    | _ => none
  | .int => match x with
    | .int i => some (.int i)
    | _ => none
  | .abs => match x with
    | .int i => some (.int (if i < 0 then -i else i))
    | _ => none
def bltD2 (b : Bl) (x y : PyData) : Option PyData := match b with
  | .mn => minD x [y]
  | .mx => match x, y with
    | .int i, .int j => some (.int (if j > i then j else i))
    | _, _ => none
  | _ => none
def bltF (b : Bl) (as : List A) (S : Sto) : Option A := match as with
  | [a] => match a with
    | .seq ns => match b with
      | .list => some (.d (.list (ns.map .int)))
      | _ => none
    | a => ((deref S a).bind (bltD b)).map .d
  | [.d x, .d y] => (bltD2 b x y).map .d
  | _ => none
def typeOk (x : PyData) (t : Ty) : Bool := match x with
  | .none => false
  | .bool _ => t == .bool || t == .int
  | .int _ => t == .int
  | .str _ => t == .str
  | .list _ => t == .list
  | .tuple _ => t == .tuple
  | .dict _ => false
def asInt : A → Option Int
  | .d (.int i) => some i
  | _ => none
/-- o[i] = v -/
def setF (o i v : A) (S : Sto) : Option Sto := match o with
  | .obj k => match S[k]? with
    | some (.lst xs false) => match i with
      | .d (.int j) => match frz S v with
        | some (x, S1) => match ixN xs.length j, S1[k]? with
          | some n, some (.lst _ false) => some (S1.set k (.lst (xs.set n x) false))
          | _, _ => none
        | none => none
      | _ => none
    | _ => none
  | _ => none
def appF (o v : A) (S : Sto) : Option Sto := match o with
  | .obj k => match frz S v with
    | some (x, S1) => match S1[k]? with
      | some (.lst xs false) => if xs.length < 16777216 then some (S1.set k (.lst (xs ++ [x]) false)) else none
      | _ => none
    | none => none
  | _ => none
def newOb : PyData → Option Ob
  | .list xs => some (.lst xs false)
  | _ => none

/-! ### loops -/
def compL (f : PyData → Sto → Option (Option PyData × Sto)) : List PyData → Sto → Option (List PyData × Sto)
  | [], S => some ([], S)
  | x :: xs, S => match f x S with
    | none => none
    | some (o, S1) => match compL f xs S1 with
      | none => none
      | some (ys, S2) => some ((match o with | some y => y :: ys | none => ys), S2)
def wipeE (env : En) : List Nat → En
  | [] => env
  | i :: is => (wipeE env is).set i none
def forL (body : PyData → En → Sto → Option (Fl × En × Sto)) : List PyData → En → Sto → Option (Fl × En × Sto)
  | [], env, S => some (.nx, env, S)
  | x :: xs, env, S => match body x env S with
    | some (.nx, env', S') => forL body xs env' S'
    | some (.ct, env', S') => forL body xs env' S'
    | some (.bk, env', S') => some (.nx, env', S')
    | some (.rt a, env', S') => some (.rt a, env', S')
    | none => none
def whlL (test : En → Sto → Option (Bool × Sto)) (body : En → Sto → Option (Fl × En × Sto)) : Nat → En → Sto → Option (Fl × En × Sto)
  | 0, _, _ => none
  | n + 1, env, S => match test env S with
    | some (false, S1) => some (.nx, env, S1)
    | some (true, S1) => match body env S1 with
      | some (.nx, env', S') => whlL test body n env' S'
      | some (.ct, env', S') => whlL test body n env' S'
      | some (.bk, env', S') => some (.nx, env', S')
      | some (.rt a, env', S') => some (.rt a, env', S')
      | none => none
    | none => none
/-- the items that are walked -/
def seqF (a : A) (S : Sto) : Option (List PyData × Sto) := match a with
  | .d (.list xs) => some (xs, S)
  | .d (.tuple xs) => some (xs, S)
  | .d (.str z) => if z.length ≤ 16777216 then some (z.cps.toList.map fun c => .str ⟨#[c]⟩, S) else none
  | .obj k => match S[k]? with
    | some (.lst xs _) => some (xs, S.set k (.lst xs true))
    | _ => none
  | _ => none
def rngD (lo : Int) (n : Nat) : List PyData := (List.range n).map fun k => .int (lo + (k : Nat))
def rngF (i j : Int) : Option (List PyData) := if (-(2 ^ 62) ≤ i ∧ i < 2 ^ 62 ∧ -(2 ^ 62) ≤ j ∧ j < 2 ^ 62) ∧ (j - i).toNat ≤ 16777216 then some (rngD i (j - i).toNat) else none
def enmD (xs : List PyData) : List PyData := (List.range xs.length).zipWith (fun k x => .tuple [.int (k : Nat), x]) xs
def zipD (xs ys : List PyData) : List PyData := xs.zipWith (fun x y => .tuple [x, y]) ys

/-! ### the evaluator -/
def Exs.isNil : Exs → Bool
  | .nil => true
  | .cons _ _ => false
def Tgs.len : Tgs → Nat
  | .nil => 0
  | .cons _ ts => ts.len + 1
mutual
def Tg.slots : Tg → List Nat
  | .nm i => [i]
  | .tp ts => ts.slots
  | .sub _ _ => []
def Tgs.slots : Tgs → List Nat
  | .nil => []
  | .cons t ts => t.slots ++ ts.slots
end
section
variable (Φ : List Fs) (Γ : List PyData)
mutual
def ev : Ex → En → Sto → Option (A × Sto)
  | .var i, env, S => match env[i]? with
    | some (some a) => some (a, S)
    | _ => none
  | .cst c, _, S => some (.d c, S)
  | .glb i, _, S => match Γ[i]? with
    | some x => some (.d x, S)
    | none => none
  | .tup es, env, S => match evs es env S with
    | none => none
    | some (as, S1) => match frzAll as S1 with
      | some (xs, S2) => some (.d (.tuple xs), S2)
      | none => match as with
        | [a, b] => some (.pr a b, S1)
        | _ => none
  | .lst es, env, S => match evs es env S with
    | none => none
    | some (as, S1) => match frzAll as S1 with
      | some (xs, S2) => some (.d (.list xs), S2)
      | none => none
  | .fresh e, env, S => match ev e env S with
    | some (.d x, S1) => match newOb x with
      | some o => some (.obj S1.length, S1 ++ [o])
      | none => none
    | _ => none
  | .bin o a b, env, S => match ev a env S with
    | none => none
    | some (x, S1) => match ev b env S1 with
      | none => none
      | some (y, S2) => (binF o x y S2).map fun c => (c, S2)
  | .neg a, env, S => match ev a env S with
    | some (.d (.int i), S1) => some (.d (.int (-i)), S1)
    | _ => none
  | .cmp o a b, env, S => match ev a env S with
    | none => none
    | some (x, S1) => match ev b env S1 with
      | none => none
      | some (y, S2) => (cmpF o x y S2).map fun c => (.d (.bool c), S2)
  | .chn o p a b c, env, S => match ev a env S with
    | none => none
    | some (x, S1) => match ev b env S1 with
      | none => none
      | some (y, S2) => match cmpF o x y S2 with
        | none => none
        | some false => some (.d (.bool false), S2)
        | some true => match ev c env S2 with
          | none => none
          | some (z, S3) => (cmpF p y z S3).map fun c => (.d (.bool c), S3)
  | .and es, env, S => evAnd es env S
  | .or es, env, S => evOr es env S
  | .not a, env, S => match ev a env S with
    | none => none
    | some (x, S1) => (tru S1 x).map fun c => (.d (.bool !c), S1)
  | .ite t a b, env, S => match ev t env S with
    | none => none
    | some (x, S1) => match tru S1 x with
      | none => none
      | some true => ev a env S1
      | some false => ev b env S1
  | .ix a i, env, S => match ev a env S with
    | none => none
    | some (x, S1) => match ev i env S1 with
      | none => none
      | some (y, S2) => (ixF x y S2).map fun c => (c, S2)
  | .slc a lo hi, env, S => match ev a env S with
    | none => none
    | some (x, S1) => match evOpt lo env S1 with
      | none => none
      | some (l, S2) => match evOpt hi env S2 with
        | none => none
        | some (h, S3) => match deref S3 x with
          | none => none
          | some y => (slcD y l h).map fun c => (.d c, S3)
  | .call f es, env, S => match evs es env S with
    | none => none
    | some (as, S1) => match Φ[f]? with
      | none => none
      | some m => match m as S1 with
        | none => none
        | some (r, S2) => some (r, gc r S1 S2)
  | .blt b es, env, S => match evs es env S with
    | none => none
    | some (as, S1) => (bltF b as S1).map fun c => (c, S1)
  | .isi a ts, env, S => match ev a env S with
    | none => none
    | some (x, S1) => match deref S1 x with
      | none => none
      | some (.dict _) => none
      | some y => some (.d (.bool (ts.any fun t => typeOk y t)), S1)
  | .comp t it ifs e, env, S => match evI it env S with
    | none => none
    | some (xs, S1) =>
      let env0 := wipeE env t.slots
      match compL (fun x S2 => match bnd t (.d x) env0 S2 with
        | none => none
        | some (env1, S3) => match evTs ifs env1 S3 with
          | none => none
          | some (false, S4) => some (none, S4)
          | some (true, S4) => match ev e env1 S4 with
            | none => none
            | some (y, S5) => match frz S5 y with
              | none => none
              | some (z, S6) => some (some z, S6)) xs S1 with
      | none => none
      | some (ys, S2) => some (.d (.list ys), S2)
  | .lrg a, env, S => match ev a env S with
    | some (.d (.int j), S1) => (rngF 0 j).map fun xs => (.d (.list xs), S1)
    | _ => none
def evs : Exs → En → Sto → Option (List A × Sto)
  | .nil, _, S => some ([], S)
  | .cons e es, env, S => match ev e env S with
    | none => none
    | some (a, S1) => match evs es env S1 with
      | none => none
      | some (as, S2) => some (a :: as, S2)
def evAnd : Exs → En → Sto → Option (A × Sto)
  | .nil, _, _ => none
  | .cons e es, env, S => match ev e env S with
    | none => none
    | some (a, S1) => if es.isNil = true then some (a, S1) else match tru S1 a with
      | none => none
      | some false => some (a, S1)
      | some true => evAnd es env S1
def evOr : Exs → En → Sto → Option (A × Sto)
  | .nil, _, _ => none
  | .cons e es, env, S => match ev e env S with
    | none => none
    | some (a, S1) => if es.isNil = true then some (a, S1) else match tru S1 a with
      | none => none
      | some true => some (a, S1)
      | some false => evOr es env S1
/-- a comprehension's tests: none or one -/
def evTs : Exs → En → Sto → Option (Bool × Sto)
  | .nil, _, S => some (true, S)
  | .cons e es, env, S => match es with
    | .nil => match ev e env S with
      | none => none
      | some (a, S1) => (tru S1 a).map fun c => (c, S1)
    | _ => none
def evOpt : Exs → En → Sto → Option (Option Int × Sto)
  | .nil, _, S => some (none, S)
  | .cons e es, env, S => match es with
    | .nil => match ev e env S with
      | some (.d (.int i), S1) => some (some i, S1)
      | _ => none
    | _ => none
def evI : Itx → En → Sto → Option (List PyData × Sto)
  | .seq e, env, S => match ev e env S with
    | none => none
    | some (a, S1) => seqF a S1
  | .rng a, env, S => match ev a env S with
    | some (.d (.int j), S1) => (rngF 0 j).map fun xs => (xs, S1)
    | _ => none
  | .rng2 a b, env, S => match ev a env S with
    | some (.d (.int i), S1) => match ev b env S1 with
      | some (.d (.int j), S2) => (rngF i j).map fun xs => (xs, S2)
      | _ => none
    | _ => none
  | .enm e, env, S => match ev e env S with
    | some (.d (.list xs), S1) => some (enmD xs, S1)
    | some (.d (.tuple xs), S1) => some (enmD xs, S1)
    | _ => none
  | .zip a b, env, S => match ev a env S with
    | some (.d (.list xs), S1) => match ev b env S1 with
      | some (.d (.list ys), S2) => if xs.length ≤ 16777216 then some (zipD xs ys, S2) else none
      | _ => none
    | some (.d (.tuple xs), S1) => match ev b env S1 with
      | some (.d (.tuple ys), S2) => if xs.length ≤ 16777216 then some (zipD xs ys, S2) else none
      | _ => none
    | _ => none
/-- a value given to a target -/
def bnd : Tg → A → En → Sto → Option (En × Sto)
  | .nm i, a, env, S => some (env.set i (some a), S)
  | .tp ts, a, env, S => match a with
    | .d (.tuple xs) => if xs.length = ts.len then bnds ts (xs.map .d) env S else none
    | .pr x y => if ts.len = 2 then bnds ts [x, y] env S else none
    | _ => none
  | .sub o i, a, env, S => match ev o env S with
    | none => none
    | some (x, S1) => match ev i env S1 with
      | none => none
      | some (y, S2) => (setF x y a S2).map fun S3 => (env, S3)
def bnds : Tgs → List A → En → Sto → Option (En × Sto)
  | .nil, as, env, S => match as with
    | [] => some (env, S)
    | _ => none
  | .cons t ts, as, env, S => match as with
    | [] => none
    | a :: as => match bnd t a env S with
      | none => none
      | some (env1, S1) => bnds ts as env1 S1
end
def evT (e : Ex) (env : En) (S : Sto) : Option (Bool × Sto) := match ev Φ Γ e env S with
  | none => none
  | some (a, S1) => (tru S1 a).map fun c => (c, S1)
mutual
def ex : Sx → En → Sto → Option (Fl × En × Sto)
  | .asg t e, env, S => match ev Φ Γ e env S with
    | none => none
    | some (a, S1) => (bnd Φ Γ t a env S1).map fun r => (.nx, r.1, r.2)
  | .par ts es, env, S => match evs Φ Γ es env S with
    | none => none
    | some (as, S1) => (bnds Φ Γ ts as env S1).map fun r => (.nx, r.1, r.2)
  | .app o e, env, S => match ev Φ Γ o env S with
    | none => none
    | some (x, S1) => match deref S1 x with
      | some (.list _) => match ev Φ Γ e env S1 with
        | none => none
        | some (y, S2) => (appF x y S2).map fun S3 => (.nx, env, S3)
      | _ => none
  | .ifs t a b, env, S => match evT Φ Γ t env S with
    | none => none
    | some (true, S1) => exs a env S1
    | some (false, S1) => exs b env S1
  | .for_ t it b wl, env, S => match evI Φ Γ it env S with
    | none => none
    | some (xs, S1) => forL (fun x env S => match bnd Φ Γ t (.d x) env S with
        | none => none
        | some (env1, S1) => (exs b env1 S1).map fun r => (r.1, wipeE r.2.1 wl, r.2.2)) xs env S1
  | .whl n t b wl, env, S => whlL (evT Φ Γ t) (fun env S => (exs b env S).map fun r => (r.1, wipeE r.2.1 wl, r.2.2)) n env S
  | .ret e, env, S => match ev Φ Γ e env S with
    | none => none
    | some (a, S1) => match frz S1 a with
      | some (x, S2) => some (.rt (.d x), env, S2)
      | none => some (.rt a, env, S1)
  | .retO e, env, S => match ev Φ Γ e env S with
    | none => none
    | some (a, S1) => some (.rt a, env, S1)
  | .ret0, env, S => some (.rt (.d .none), env, S)
  | .exp e, env, S => match ev Φ Γ e env S with
    | none => none
    | some (_, S1) => some (.nx, env, S1)
  | .brk, env, S => some (.bk, env, S)
  | .cnt, env, S => some (.ct, env, S)
  | .pas, env, S => some (.nx, env, S)
def exs : Ss → En → Sto → Option (Fl × En × Sto)
  | .nil, env, S => some (.nx, env, S)
  | .cons s ss, env, S => match ex s env S with
    | some (.nx, env1, S1) => exs ss env1 S1
    | some (.rt a, env1, S1) => some (.rt a, env1, S1)
    | some (.bk, env1, S1) => some (.bk, env1, S1)
    | some (.ct, env1, S1) => some (.ct, env1, S1)
    | none => none
end
/-- a def: n slots, its body -/
def run (n : Nat) (b : Ss) : Fs := fun as S => match exs Φ Γ b (as.map some ++ List.replicate (n - as.length) none) S with
  | some (.rt a, _, S') => some (a, S')
  | some (.nx, _, S') => some (.d .none, S')
  | _ => none
end
end PV

/-! PV2: worlds: how data and store lie in the abstract heap. -/
namespace PV
open PySem PySem.Spec PyProof.Rows L2

def keyD : PyData → Option Key
  | .int i => some (.inl i)
  | .str x => some (.inr x)
  | _ => none
def keysD : List PyData → Option (List Key)
  | [] => some []
  | x :: xs => match keyD x, keysD xs with
    | some k, some ks => some (k :: ks)
    | _, _ => none
def keyT : PyData → Option (List Key)
  | .tuple xs => keysD xs
  | _ => none
mutual
/-- v lies as the datum, in objects that never change again -/
inductive Rp (K : PySem.W.Frag) (F : Hp) : V → PyData → Prop
  | non : Rp K F .non .none
  | bl (b : Bool) : Rp K F (.bl b) (.bool b)
  | int (i : Int) : Rp K F (.int i) (.int i)
  | str (x : Str) : Rp K F (.str x) (.str x)
  | lst {a : Addr} {vs : List V} {ds : List PyData} : F a = some (.lst vs) → RpA K F vs ds → Rp K F (.ref a) (.list ds)
  | tup {a : Addr} {vs : List V} {ds : List PyData} : SqT K F a vs → RpA K F vs ds → Rp K F (.ref a) (.tuple ds)
  | dicK {a : Addr} {vs : List (Key × V)} {ds : List (PyData × PyData)} : F a = some (.dK vs) → RpK K F vs ds → Rp K F (.ref a) (.dict ds)
  | dicT {a : Addr} {vs : List (List Key × V)} {ds : List (PyData × PyData)} : F a = some (.dT vs) → RpT K F vs ds → Rp K F (.ref a) (.dict ds)
inductive RpA (K : PySem.W.Frag) (F : Hp) : List V → List PyData → Prop
  | nil : RpA K F [] []
  | cons {v : V} {vs : List V} {d : PyData} {ds : List PyData} : Rp K F v d → RpA K F vs ds → RpA K F (v :: vs) (d :: ds)
inductive RpK (K : PySem.W.Frag) (F : Hp) : List (Key × V) → List (PyData × PyData) → Prop
  | nil : RpK K F [] []
  | cons {k : Key} {v : V} {vs : List (Key × V)} {x d : PyData} {ds : List (PyData × PyData)} : keyD x = some k → Rp K F v d → RpK K F vs ds → RpK K F ((k, v) :: vs) ((x, d) :: ds)
inductive RpT (K : PySem.W.Frag) (F : Hp) : List (List Key × V) → List (PyData × PyData) → Prop
  | nil : RpT K F [] []
  | cons {k : List Key} {v : V} {vs : List (List Key × V)} {x d : PyData} {ds : List (PyData × PyData)} : keyT x = some k → Rp K F v d → RpT K F vs ds → RpT K F ((k, v) :: vs) ((x, d) :: ds)
end
def LeF (F F' : Hp) : Prop := ∀ a u, F a = some u → F' a = some u
section
variable {K : PySem.W.Frag} {F F' H : Hp}
theorem LeF.rd (h : LeF F F') {a : Addr} {u : HO} (r : Rd F a u) : Rd F' a u := r.elim (fun e => .inl (h _ _ e)) fun ⟨o, e⟩ => .inr ⟨o, h _ _ e⟩
theorem LeF.seqL (h : LeF F F') {a : Addr} {xs : List V} (q : SqL K F a xs) : SqL K F' a xs := q.elim (fun r => .inl (h.rd r)) .inr
theorem LeF.seqT (h : LeF F F') {a : Addr} {xs : List V} (q : SqT K F a xs) : SqT K F' a xs := q.elim (fun r => .inl (h.rd r)) .inr
/-- a dict may be locked meanwhile -/
def isDic : HO → Bool
  | .dK _ => true
  | .dT _ => true
  | _ => false
def SubF (F H : Hp) : Prop := ∀ a u, F a = some u → H a = some u ∨ (isDic u = true ∧ ∃ o, H a = some (.frz o u))
theorem SubF.ex (h : SubF F H) {a : Addr} {u : HO} (e : F a = some u) (n : isDic u = false) : H a = some u := (h a u e).elim id fun z => by
  rw [n] at z
  exact absurd z.1 Bool.false_ne_true
theorem SubF.rd (h : SubF F H) {a : Addr} {u : HO} (r : Rd F a u) : Rd H a u := by
  rcases r with r | ⟨o, r⟩
  · exact (h a u r).elim .inl fun z => .inr z.2
  · exact .inr ⟨o, h.ex r rfl⟩
theorem SubF.seqL (h : SubF F H) {a : Addr} {xs : List V} (q : SqL K F a xs) : SqL K H a xs := q.elim (fun r => .inl (h.rd r)) .inr
theorem SubF.seqT (h : SubF F H) {a : Addr} {xs : List V} (q : SqT K F a xs) : SqT K H a xs := q.elim (fun r => .inl (h.rd r)) .inr
mutual
theorem Rp.le (h : LeF F F') : ∀ {v d}, Rp K F v d → Rp K F' v d
  | _, _, .non => .non
  | _, _, .bl b => .bl b
  | _, _, .int i => .int i
  | _, _, .str x => .str x
  | _, _, .lst q r => .lst (h _ _ q) (RpA.le h r)
  | _, _, .tup q r => .tup (h.seqT q) (RpA.le h r)
  | _, _, .dicK q r => .dicK (h _ _ q) (RpK.le h r)
  | _, _, .dicT q r => .dicT (h _ _ q) (RpT.le h r)
theorem RpA.le (h : LeF F F') : ∀ {v d}, RpA K F v d → RpA K F' v d
  | _, _, .nil => .nil
  | _, _, .cons q r => .cons (Rp.le h q) (RpA.le h r)
theorem RpK.le (h : LeF F F') : ∀ {v d}, RpK K F v d → RpK K F' v d
  | _, _, .nil => .nil
  | _, _, .cons e q r => .cons e (Rp.le h q) (RpK.le h r)
theorem RpT.le (h : LeF F F') : ∀ {v d}, RpT K F v d → RpT K F' v d
  | _, _, .nil => .nil
  | _, _, .cons e q r => .cons e (Rp.le h q) (RpT.le h r)
end
theorem RpA.length : ∀ {vs : List V} {ds : List PyData}, RpA K F vs ds → vs.length = ds.length
  | _, _, .nil => rfl
  | _, _, .cons _ r => by rw [List.length_cons, List.length_cons, r.length]
theorem RpA.get : ∀ {vs : List V} {ds : List PyData} {i : Nat} {d : PyData}, RpA K F vs ds → ds[i]? = some d → ∃ v, vs[i]? = some v ∧ Rp K F v d
  | _, _, _, _, .nil, e => by simp at e
  | _, _, 0, _, .cons q _, e => by
    simp at e
    subst e
    exact ⟨_, rfl, q⟩
  | _, _, i + 1, d, .cons _ r, e => by
    obtain ⟨v, h1, h2⟩ := RpA.get (i := i) (d := d) r (by simpa using e)
    exact ⟨v, by simpa using h1, h2⟩
theorem RpA.append : ∀ {vs ws : List V} {ds es : List PyData}, RpA K F vs ds → RpA K F ws es → RpA K F (vs ++ ws) (ds ++ es)
  | _, _, _, _, .nil, s => s
  | _, _, _, _, .cons q r, s => .cons q (r.append s)
theorem RpA.drop : ∀ {vs : List V} {ds : List PyData} (n : Nat), RpA K F vs ds → RpA K F (vs.drop n) (ds.drop n)
  | _, _, 0, r => r
  | _, _, _ + 1, .nil => .nil
  | _, _, n + 1, .cons _ r => r.drop n
theorem RpA.take : ∀ {vs : List V} {ds : List PyData} (n : Nat), RpA K F vs ds → RpA K F (vs.take n) (ds.take n)
  | _, _, 0, _ => .nil
  | _, _, _ + 1, .nil => .nil
  | _, _, n + 1, .cons q r => .cons q (r.take n)
theorem RpA.set {v : V} {d : PyData} (q : Rp K F v d) : ∀ {vs : List V} {ds : List PyData} (n : Nat), RpA K F vs ds → RpA K F (vs.set n v) (ds.set n d)
  | _, _, _, .nil => .nil
  | _, _, 0, .cons _ r => .cons q r
  | _, _, n + 1, .cons p r => .cons p (r.set q n)
theorem RpA.cut {vs : List V} {ds : List PyData} (r : RpA K F vs ds) (lo hi : Option Int) : RpA K F (cutV vs lo hi) (cutG ds lo hi) := by
  unfold cutV cutG
  rw [r.length]
  exact (r.drop _).take _
theorem RpA.at {vs : List V} {ds : List PyData} (r : RpA K F vs ds) {i : Int} {d : PyData} (h : atI ds i = some d) : ∃ v, atI vs i = some v ∧ Rp K F v d := by
  unfold atI at h ⊢
  rw [r.length]
  cases e : ixN ds.length i with
  | none =>
    rw [e] at h
    cases h
  | some j =>
    rw [e] at h
    exact r.get h
theorem RpA.rep {vs : List V} {ds : List PyData} (r : RpA K F vs ds) : ∀ n : Nat, RpA K F (List.replicate n vs).flatten (List.replicate n ds).flatten
  | 0 => .nil
  | n + 1 => by
    rw [List.replicate_succ, List.replicate_succ, List.flatten_cons, List.flatten_cons]
    exact r.append (r.rep n)
theorem RpA.ints : ∀ {vs : List V} {ds : List PyData} {ns : List Int}, RpA K F vs ds → intsD ds = some ns → vs = ns.map V.int
  | _, _, _, .nil, e => by
    cases e
    rfl
  | _, _, _, .cons (d := d) (ds := ds) q r, e => by
    cases q with
    | int i =>
      unfold intsD at e
      cases h : intsD ds with
      | none =>
        rw [h] at e
        cases e
      | some ns =>
        rw [h] at e
        cases e
        rw [r.ints h]
        rfl
    | _ => cases e
theorem RpA.bools : ∀ {vs : List V} {ds : List PyData} {bs : List Bool}, RpA K F vs ds → boolsD ds = some bs → vs = bs.map V.bl
  | _, _, _, .nil, e => by
    cases e
    rfl
  | _, _, _, .cons (d := d) (ds := ds) q r, e => by
    cases q with
    | bl i =>
      unfold boolsD at e
      cases h : boolsD ds with
      | none =>
        rw [h] at e
        cases e
      | some ns =>
        rw [h] at e
        cases e
        rw [r.bools h]
        rfl
    | _ => cases e
theorem RpA.mem {vs : List V} {ds : List PyData} : RpA K F vs ds → ∀ {v : V}, v ∈ vs → ∃ d, d ∈ ds ∧ Rp K F v d
  | .nil, _, h => by cases h
  | .cons q r, v, h => by
    rcases List.mem_cons.mp h with e | h
    · subst e
      exact ⟨_, List.mem_cons_self, q⟩
    · obtain ⟨d, h1, h2⟩ := r.mem h
      exact ⟨d, List.mem_cons_of_mem _ h1, h2⟩
/-- as the hand layer's own data -/
theorem Rp.dp (hs : SubF F H) : ∀ (d : PyData) {v : V}, Rp K F v d → noDic d = true → Dp K H v d := by
  intro d
  refine PyData.rec (motive_1 := fun d => ∀ {v : V}, Rp K F v d → noDic d = true → Dp K H v d) (motive_2 := fun ds => ∀ {vs : List V}, RpA K F vs ds → noDics ds = true → DpAll K H vs ds) (motive_3 := fun _ => True) (motive_4 := fun _ => True)
    ?_ ?_ ?_ ?_ ?_ ?_ ?_ ?_ ?_ ?_ ?_ ?_ d
  · intro v r _
    cases r
    exact .non
  · intro b v r _
    cases r
    exact .bl b
  · intro b v r _
    cases r
    exact .int b
  · intro b v r _
    cases r
    exact .str b
  · intro xs ih v r h
    cases r with
    | lst q r => exact .lst (.inl (.inl (hs.ex q rfl))) (ih r (by simpa [noDic] using h))
  · intro xs ih v r h
    cases r with
    | tup q r => exact .tup (hs.seqT q) (ih r (by simpa [noDic] using h))
  · intro kvs _ v r h
    simp [noDic] at h
  · intro vs r _
    cases r
    exact .nil
  · intro d ds ih1 ih2 vs r h
    cases r with
    | cons q r =>
      have h : noDic d = true ∧ noDics ds = true := by simpa [noDics] using h
      exact .cons (ih1 q h.1) (ih2 r h.2)
  · trivial
  · intros; trivial
  · intros; trivial
end
mutual
theorem noDic_lay : ∀ d : PyData, d.canLay0 = true → noDic d = true
  | .none, _ => rfl
  | .bool _, _ => rfl
  | .int _, _ => rfl
  | .str _, _ => rfl
  | .list xs, h => noDics_lay xs (by simpa [PyData.canLay0] using h)
  | .tuple xs, h => noDics_lay xs (by simpa [PyData.canLay0] using h)
  | .dict _, h => by simp [PyData.canLay0] at h
theorem noDics_lay : ∀ d : List PyData, PyData.canLayAll0 d = true → noDics d = true
  | [], _ => rfl
  | x :: xs, h => by
    have h : x.canLay0 = true ∧ PyData.canLayAll0 xs = true := by simpa [PyData.canLayAll0] using h
    simp [noDics, noDic_lay x h.1, noDics_lay xs h.2]
end
theorem noDics_mem : ∀ {ds : List PyData} {d : PyData}, noDics ds = true → d ∈ ds → noDic d = true
  | x :: xs, d, h, hd => by
    have h : noDic x = true ∧ noDics xs = true := by simpa [noDics] using h
    rcases List.mem_cons.mp hd with e | hd
    · exact e ▸ h.1
    · exact noDics_mem h.2 hd

/-! ### worlds -/
structure Wo where
  F : Hp
  ρ : List Addr
  G : Hp
structure Le (W W' : Wo) : Prop where
  F : LeF W.F W'.F
  ρ : ∃ m, W'.ρ = W.ρ ++ m
  G : W'.G = W.G
theorem Le.refl (W : Wo) : Le W W := ⟨fun _ _ e => e, ⟨[], by simp⟩, rfl⟩
theorem Le.trans {W1 W2 W3 : Wo} (a : Le W1 W2) (b : Le W2 W3) : Le W1 W3 := by
  obtain ⟨m, e⟩ := a.ρ
  obtain ⟨m', e'⟩ := b.ρ
  exact ⟨fun x u q => b.F x u (a.F x u q), ⟨m ++ m', by rw [e', e, List.append_assoc]⟩, b.G.trans a.G⟩
theorem Le.get {W W' : Wo} (h : Le W W') {k : Nat} {a : Addr} (e : W.ρ[k]? = some a) : W'.ρ[k]? = some a := by
  obtain ⟨m, q⟩ := h.ρ
  rw [q]
  have hk : k < W.ρ.length := by
    rcases Nat.lt_or_ge k W.ρ.length with h | h
    · exact h
    · rw [List.getElem?_eq_none h] at e
      cases e
  rw [List.getElem?_append_left hk]
  exact e
def Ra (K : PySem.W.Frag) (W : Wo) : V → A → Prop
  | v, .d x => Rp K W.F v x
  | v, .obj k => ∃ a, W.ρ[k]? = some a ∧ v = .ref a
  | v, .pr x y => ∃ p vx vy, v = .ref p ∧ SqT K W.F p [vx, vy] ∧ Ra K W vx x ∧ Ra K W vy y
  | v, .seq ns => ∃ p, v = .ref p ∧ SqL K W.F p (ns.map V.int)
theorem Ra.le {K : PySem.W.Frag} {W W' : Wo} (h : Le W W') : ∀ {a : A} {v : V}, Ra K W v a → Ra K W' v a
  | .d _, _, r => Rp.le h.F r
  | .obj _, _, ⟨a, e, r⟩ => ⟨a, h.get e, r⟩
  | .pr _ _, _, ⟨p, vx, vy, e, q, r1, r2⟩ => ⟨p, vx, vy, e, h.F.seqT q, Ra.le h r1, Ra.le h r2⟩
  | .seq _, _, ⟨p, e, q⟩ => ⟨p, e, h.F.seqL q⟩
inductive RaA (K : PySem.W.Frag) (W : Wo) : List V → List A → Prop
  | nil : RaA K W [] []
  | cons {v : V} {vs : List V} {a : A} {as : List A} : Ra K W v a → RaA K W vs as → RaA K W (v :: vs) (a :: as)
theorem RaA.le {K : PySem.W.Frag} {W W' : Wo} (h : Le W W') : ∀ {vs : List V} {as : List A}, RaA K W vs as → RaA K W' vs as
  | _, _, .nil => .nil
  | _, _, .cons q r => .cons (q.le h) (r.le h)
theorem RaA.length {K : PySem.W.Frag} {W : Wo} : ∀ {vs : List V} {as : List A}, RaA K W vs as → vs.length = as.length
  | _, _, .nil => rfl
  | _, _, .cons _ r => by rw [List.length_cons, List.length_cons, r.length]
/-- an object of the store, at its place -/
def ObR (K : PySem.W.Frag) (W : Wo) (H : Hp) (a : Addr) : Ob → Prop
  | .lst xs fz => ∃ vs, H a = some (.lst vs) ∧ RpA K W.F vs xs ∧ W.F a = if fz = true then some (.lst vs) else none
  | _ => False
structure Wd (K : PySem.W.Frag) (W : Wo) (H : Hp) (S : Sto) : Prop where
  sub : SubF W.F H
  len : W.ρ.length = S.length
  nd : W.ρ.Nodup
  ob : ∀ (k : Nat) (a : Addr) (o : Ob), W.ρ[k]? = some a → S[k]? = some o → ObR K W H a o
  gu : ∀ (a : Addr) (u : HO), W.G a = some u → H a = some u ∧ W.F a = none ∧ a ∉ W.ρ
section
variable {K : PySem.W.Frag} {W W' : Wo} {H H' : Hp} {S : Sto} {p a : Addr} {o : Ob} {u : HO}
theorem ObR.stay (h : ObR K W H a o) (le : LeF W.F W'.F) (e : H' a = H a) (f : W.F a = none → W'.F a = none) : ObR K W' H' a o := by
  cases o with
  | lst xs fz =>
    obtain ⟨vs, h1, h2, h3⟩ := h
    refine ⟨vs, e.trans h1, h2.le le, ?_⟩
    cases fz with
    | true => exact le _ _ (by simpa using h3)
    | false =>
      have h3 : W.F a = none := by simpa using h3
      simpa using f h3
  | _ => exact h
theorem ObR.there (h : ObR K W H a o) : ∃ u, H a = some u := by
  cases o with
  | lst xs fz =>
    obtain ⟨vs, h1, _⟩ := h
    exact ⟨_, h1⟩
  | _ => exact h.elim
theorem Wd.at (h : Wd K W H S) {k : Nat} (e : W.ρ[k]? = some a) : ∃ o, S[k]? = some o ∧ ObR K W H a o := by
  have hk : k < S.length := by
    rw [← h.len]
    rcases Nat.lt_or_ge k W.ρ.length with q | q
    · exact q
    · rw [List.getElem?_eq_none q] at e
      cases e
  exact ⟨S[k], List.getElem?_eq_getElem hk, h.ob k a _ e (List.getElem?_eq_getElem hk)⟩
theorem Wd.notin (h : Wd K W H S) (n : H p = none) : p ∉ W.ρ := fun hp => by
  obtain ⟨k, e⟩ := List.getElem?_of_mem hp
  obtain ⟨o, _, r⟩ := h.at e
  obtain ⟨u, q⟩ := r.there
  rw [n] at q
  cases q
theorem Wd.freeF (h : Wd K W H S) (n : H p = none) : W.F p = none := by
  cases e : W.F p with
  | none => rfl
  | some u =>
    rcases h.sub p u e with q | ⟨_, _, q⟩ <;> (rw [n] at q; cases q)
theorem ix_inj {l : List Addr} (h : l.Nodup) {i j : Nat} {a : Addr} (e : l[i]? = some a) (q : l[j]? = some a) : i = j := by
  have hi : i < l.length := by
    rcases Nat.lt_or_ge i l.length with z | z
    · exact z
    · rw [List.getElem?_eq_none z] at e
      cases e
  exact (List.getElem?_inj hi h).mp (e.trans q.symm)
theorem Wd.freeG (h : Wd K W H S) (n : H p = none) : W.G p = none := by
  cases e : W.G p with
  | none => rfl
  | some u =>
    have := (h.gu p u e).1
    rw [n] at this
    cases this
theorem leF_upd {F : Hp} (n : F p = none) : LeF F (upd F p u) := fun b x e => by
  rw [upd_ne (ne_of_none e n)]
  exact e
theorem Le.upd (n : W.F p = none) : Le W ⟨upd W.F p u, W.ρ, W.G⟩ := ⟨leF_upd n, ⟨[], by simp⟩, rfl⟩
/-- the heap changes where nothing is told -/
theorem Wd.heap (h : Wd K W H S) (k : ∀ b, H' b = H b ∨ (W.F b = none ∧ b ∉ W.ρ ∧ W.G b = none)) : Wd K W H' S := by
  refine ⟨fun b x r => ?_, h.len, h.nd, fun j b o e1 e2 => ?_, fun b x e => ?_⟩
  · rcases k b with q | ⟨q, _⟩
    · rw [q]
      exact h.sub b x r
    · rw [q] at r
      cases r
  · rcases k b with q | ⟨_, q, _⟩
    · exact (h.ob j b o e1 e2).stay (fun _ _ z => z) q fun z => z
    · exact absurd (List.mem_of_getElem? e1) q
  · rcases k b with q | ⟨_, _, q⟩
    · rw [q]
      exact h.gu b x e
    · rw [q] at e
      cases e
/-- a new object that nothing tells of -/
theorem Wd.junk (h : Wd K W H S) (n : H p = none) : Wd K W (upd H p u) S := h.heap fun b => by
  by_cases e : b = p
  · subst e
    exact .inr ⟨h.freeF n, h.notin n, h.freeG n⟩
  · exact .inl (upd_ne e)
/-- a new object that never changes -/
theorem Wd.pure (h : Wd K W H S) (n : H p = none) : Wd K ⟨upd W.F p u, W.ρ, W.G⟩ (upd H p u) S := by
  have nF := h.freeF n
  refine ⟨fun b x r => ?_, h.len, h.nd, fun j b o e1 e2 => ?_, fun b x e => ?_⟩
  · have r : upd W.F p u b = some x := r
    by_cases e : b = p
    · subst e
      rw [upd_same] at r ⊢
      exact .inl r
    · rw [upd_ne e] at r ⊢
      exact h.sub b x r
  · have nb : b ≠ p := fun z => h.notin n (z ▸ List.mem_of_getElem? e1)
    exact (h.ob j b o e1 e2).stay (leF_upd nF) (upd_ne nb) fun z => by
      show upd W.F p u b = none
      rw [upd_ne nb]
      exact z
  · obtain ⟨g1, g2, g3⟩ := h.gu b x e
    have nb : b ≠ p := ne_of_none g1 n
    refine ⟨(upd_ne nb).trans g1, ?_, g3⟩
    show upd W.F p u b = none
    rw [upd_ne nb]
    exact g2
/-- .. and what lay new already -/
theorem Wd.keep (h : Wd K W H S) (e : H p = some u) (n : W.F p = none) (ni : p ∉ W.ρ) (ng : W.G p = none) : Wd K ⟨upd W.F p u, W.ρ, W.G⟩ H S := by
  refine ⟨fun b x r => ?_, h.len, h.nd, fun j b o e1 e2 => ?_, fun b x e => ?_⟩
  · have r : upd W.F p u b = some x := r
    by_cases eb : b = p
    · subst eb
      rw [upd_same] at r
      exact .inl (e.trans r)
    · rw [upd_ne eb] at r
      exact h.sub b x r
  · have nb : b ≠ p := fun z => ni (z ▸ List.mem_of_getElem? e1)
    exact (h.ob j b o e1 e2).stay (leF_upd n) rfl fun z => by
      show upd W.F p u b = none
      rw [upd_ne nb]
      exact z
  · obtain ⟨g1, g2, g3⟩ := h.gu b x e
    have nb : b ≠ p := ne_of_none (H := W.G) e ng
    refine ⟨g1, ?_, g3⟩
    show upd W.F p u b = none
    rw [upd_ne nb]
    exact g2
/-- a new object of the store -/
theorem Wd.newOb (h : Wd K W H S) (ni : p ∉ W.ρ) (ng : W.G p = none) (r : ObR K W H p o) : Wd K ⟨W.F, W.ρ ++ [p], W.G⟩ H (S ++ [o]) := by
  refine ⟨h.sub, ?_, ?_, fun j b x e1 e2 => ?_, fun b x e => ?_⟩
  · show (W.ρ ++ [p]).length = _
    rw [List.length_append, List.length_append, h.len]
    rfl
  · show (W.ρ ++ [p]).Nodup
    rw [List.nodup_append]
    refine ⟨h.nd, by simp, fun x hx y hy => ?_⟩
    have : y = p := by simpa using hy
    subst this
    exact fun z => ni (z ▸ hx)
  · have e1 : (W.ρ ++ [p])[j]? = some b := e1
    have st : ∀ {b x}, ObR K W H b x → ObR K ⟨W.F, W.ρ ++ [p], W.G⟩ H b x := fun q => q.stay (fun _ _ z => z) rfl fun z => z
    by_cases hj : j < W.ρ.length
    · rw [List.getElem?_append_left hj] at e1
      rw [List.getElem?_append_left (by rw [← h.len]; exact hj)] at e2
      exact st (h.ob j b x e1 e2)
    · rw [List.getElem?_append_right (Nat.le_of_not_lt hj)] at e1
      rw [List.getElem?_append_right (by rw [← h.len]; exact Nat.le_of_not_lt hj)] at e2
      have e0 : j - W.ρ.length = 0 := by
        rcases Nat.eq_zero_or_pos (j - W.ρ.length) with z | z
        · exact z
        · rw [List.getElem?_eq_none (by simp; omega)] at e1
          cases e1
      rw [← h.len, e0] at e2
      rw [e0] at e1
      simp at e1 e2
      subst e1 e2
      exact st r
  · obtain ⟨g1, g2, g3⟩ := h.gu b x e
    refine ⟨g1, g2, fun z => ?_⟩
    rcases List.mem_append.mp (show b ∈ W.ρ ++ [p] from z) with z | z
    · exact g3 z
    · exact ne_of_none (H := W.G) e ng (by simpa using z)
theorem Le.newOb : Le W ⟨W.F, W.ρ ++ [p], W.G⟩ := ⟨fun _ _ e => e, ⟨[p], rfl⟩, rfl⟩
/-- an object of the store is written -/
theorem Wd.write (h : Wd K W H S) {k : Nat} (e : W.ρ[k]? = some p) (n : W.F p = none) {o' : Ob} (r : ObR K W (upd H p u) p o') : Wd K W (upd H p u) (S.set k o') := by
  refine ⟨fun b x q => ?_, by rw [List.length_set]; exact h.len, h.nd, fun j b x e1 e2 => ?_, fun b x eg => ?_⟩
  · have nb : b ≠ p := fun z => by
      subst z
      rw [n] at q
      cases q
    rw [upd_ne nb]
    exact h.sub b x q
  · by_cases hj : j = k
    · subst hj
      rw [e] at e1
      cases e1
      have hk : j < S.length := by
        rcases Nat.lt_or_ge j S.length with q | q
        · exact q
        · rw [List.getElem?_eq_none (by rw [List.length_set]; exact q)] at e2
          cases e2
      rw [List.getElem?_set_self hk] at e2
      cases e2
      exact r
    · rw [List.getElem?_set_ne (Ne.symm hj)] at e2
      have nb : b ≠ p := fun z => by
        subst z
        exact hj (ix_inj h.nd e1 e)
      exact (h.ob j b x e1 e2).stay (fun _ _ z => z) (upd_ne nb) fun z => z
  · obtain ⟨g1, g2, g3⟩ := h.gu b x eg
    exact ⟨(upd_ne fun z => g3 (by rw [z]; exact List.mem_of_getElem? e)).trans g1, g2, g3⟩
/-- a list of the store is not to change again -/
theorem Wd.freeze (h : Wd K W H S) {k : Nat} {xs : List PyData} {fz : Bool} (e : W.ρ[k]? = some p) (es : S[k]? = some (.lst xs fz)) : ∃ vs W', Le W W' ∧ W'.ρ = W.ρ ∧ Wd K W' H (S.set k (.lst xs true)) ∧ W'.F p = some (.lst vs) ∧ RpA K W'.F vs xs := by
  obtain ⟨vs, h1, h2, h3⟩ := h.ob k p _ e es
  have hlen : k < S.length := by
    rcases Nat.lt_or_ge k S.length with q | q
    · exact q
    · rw [List.getElem?_eq_none q] at es
      cases es
  cases fz with
  | true =>
    have h3 : W.F p = some (.lst vs) := by simpa using h3
    have eS : S.set k (.lst xs true) = S := by
      apply List.ext_getElem?
      intro i
      by_cases hi : i = k
      · subst hi
        rw [List.getElem?_set_self hlen, es]
      · rw [List.getElem?_set_ne (Ne.symm hi)]
    rw [eS]
    exact ⟨vs, W, .refl W, rfl, h, h3, h2⟩
  | false =>
    have n : W.F p = none := by simpa using h3
    refine ⟨vs, ⟨upd W.F p (.lst vs), W.ρ, W.G⟩, .upd n, rfl, ⟨fun b x r => ?_, by rw [List.length_set]; exact h.len, h.nd, fun j b x e1 e2 => ?_, fun b x eg => ?_⟩, upd_same, h2.le (leF_upd n)⟩
    · have r : upd W.F p (.lst vs) b = some x := r
      by_cases eb : b = p
      · subst eb
        rw [upd_same] at r
        exact .inl (h1.trans r)
      · rw [upd_ne eb] at r
        exact h.sub b x r
    · by_cases hj : j = k
      · subst hj
        have e1 : W.ρ[j]? = some b := e1
        rw [e] at e1
        cases e1
        rw [List.getElem?_set_self hlen] at e2
        cases e2
        exact ⟨vs, h1, h2.le (leF_upd n), by
          show upd W.F p (.lst vs) p = _
          rw [upd_same]
          rfl⟩
      · rw [List.getElem?_set_ne (Ne.symm hj)] at e2
        have e1 : W.ρ[j]? = some b := e1
        have nb : b ≠ p := fun z => by
          subst z
          exact hj (ix_inj h.nd e1 e)
        exact (h.ob j b x e1 e2).stay (leF_upd n) rfl fun z => by
          show upd W.F p (.lst vs) b = none
          rw [upd_ne nb]
          exact z
    · obtain ⟨g1, g2, g3⟩ := h.gu b x eg
      refine ⟨g1, ?_, g3⟩
      show upd W.F p (.lst vs) b = none
      rw [upd_ne fun z => g3 (by rw [z]; exact List.mem_of_getElem? e)]
      exact g2
/-- what is read: plain data as it lies now -/
def RpH (K : PySem.W.Frag) (W : Wo) (H : Hp) (v : V) (d : PyData) : Prop := Rp K W.F v d ∨ (∃ p vs ds, v = .ref p ∧ d = .list ds ∧ H p = some (.lst vs) ∧ RpA K W.F vs ds)
theorem Wd.deref (h : Wd K W H S) {x : A} {v : V} {d : PyData} (r : Ra K W v x) (e : deref S x = some d) : RpH K W H v d := by
  cases x with
  | d y =>
    cases e
    exact .inl r
  | obj k =>
    obtain ⟨a, e1, rfl⟩ := r
    obtain ⟨o, e2, q⟩ := h.at e1
    simp only [PV.deref, e2] at e
    cases o with
    | lst xs fz =>
      cases e
      obtain ⟨vs, h1, h2, _⟩ := q
      exact .inr ⟨a, vs, xs, rfl, rfl, h1, h2⟩
    | _ => exact q.elim
  | pr _ _ => cases e
  | seq _ => cases e
theorem RpH.list (hs : SubF W.F H) {v : V} {ds : List PyData} (r : RpH K W H v (.list ds)) : ∃ p vs, v = .ref p ∧ H p = some (.lst vs) ∧ RpA K W.F vs ds := by
  rcases r with r | ⟨p, vs, ds', rfl, e, h1, h2⟩
  · cases r with
    | lst q r => exact ⟨_, _, rfl, hs.ex q rfl, r⟩
  · cases e
    exact ⟨p, vs, rfl, h1, h2⟩
theorem RpH.tup {v : V} {ds : List PyData} (r : RpH K W H v (.tuple ds)) : ∃ p vs, v = .ref p ∧ SqT K W.F p vs ∧ RpA K W.F vs ds := by
  rcases r with r | ⟨p, vs, ds', rfl, e, h1, h2⟩
  · cases r with
    | tup q r => exact ⟨_, _, rfl, q, r⟩
  · cases e
theorem RpH.int {v : V} {i : Int} (r : RpH K W H v (.int i)) : v = .int i := by
  rcases r with r | ⟨p, vs, ds', rfl, e, h1, h2⟩
  · cases r
    rfl
  · cases e
theorem RpH.bool {v : V} {i : Bool} (r : RpH K W H v (.bool i)) : v = .bl i := by
  rcases r with r | ⟨p, vs, ds', rfl, e, h1, h2⟩
  · cases r
    rfl
  · cases e
theorem RpH.str {v : V} {i : Str} (r : RpH K W H v (.str i)) : v = .str i := by
  rcases r with r | ⟨p, vs, ds', rfl, e, h1, h2⟩
  · cases r
    rfl
  · cases e
theorem RpH.none {v : V} (r : RpH K W H v .none) : v = .non := by
  rcases r with r | ⟨p, vs, ds', rfl, e, h1, h2⟩
  · cases r
    rfl
  · cases e
theorem RpA.dp (hs : SubF W.F H) : ∀ {vs : List V} {ds : List PyData}, RpA K W.F vs ds → noDics ds = true → DpAll K H vs ds
  | _, _, .nil, _ => .nil
  | _, _, .cons (d := d) (ds := ds) q r, h => by
    have h : noDic d = true ∧ noDics ds = true := by simpa [noDics] using h
    exact .cons (Rp.dp hs d q h.1) (r.dp hs h.2)
theorem RpH.dp (hs : SubF W.F H) {v : V} {d : PyData} (r : RpH K W H v d) (h : noDic d = true) : Dp K H v d := by
  rcases r with r | ⟨p, vs, ds', rfl, e, h1, h2⟩
  · exact Rp.dp hs d r h
  · subst e
    exact .lst (.inl (.inl h1)) (h2.dp hs (by simpa [noDic] using h))
theorem Wd.frz (h : Wd K W H S) {x : A} {v : V} {d : PyData} {S' : Sto} (r : Ra K W v x) (e : frz S x = some (d, S')) : ∃ W', Le W W' ∧ W'.ρ = W.ρ ∧ Wd K W' H S' ∧ Rp K W'.F v d := by
  cases x with
  | d y =>
    cases e
    exact ⟨W, .refl W, rfl, h, r⟩
  | obj k =>
    obtain ⟨a, e1, rfl⟩ := r
    obtain ⟨o, e2, q⟩ := h.at e1
    simp only [PV.frz, e2] at e
    cases o with
    | lst xs fz =>
      cases e
      obtain ⟨vs, W', le, eρ, wd, q1, q2⟩ := h.freeze e1 e2
      exact ⟨W', le, eρ, wd, .lst q1 q2⟩
    | _ => exact q.elim
  | pr _ _ => cases e
  | seq _ => cases e
theorem Wd.frzAll : ∀ {xs : List A} {vs : List V} {W : Wo} {S S' : Sto} {ds : List PyData}, Wd K W H S → RaA K W vs xs → frzAll xs S = some (ds, S') → ∃ W', Le W W' ∧ W'.ρ = W.ρ ∧ Wd K W' H S' ∧ RpA K W'.F vs ds
  | [], _, W, S, S', ds, h, .nil, e => by
    cases e
    exact ⟨W, .refl W, rfl, h, .nil⟩
  | x :: xs, _, W, S, S', ds, h, .cons q r, e => by
    unfold PV.frzAll at e
    split at e
    · cases e
    · rename_i d S1 e1
      split at e
      · cases e
      · rename_i ds' S2 e2
        cases e
        obtain ⟨W1, le1, eρ1, wd1, q1⟩ := h.frz q e1
        obtain ⟨W2, le2, eρ2, wd2, q2⟩ := wd1.frzAll (r.le le1) e2
        exact ⟨W2, le1.trans le2, eρ2.trans eρ1, wd2, .cons (q1.le le2.F) q2⟩
/-- behind a call: what it made for itself is forgotten -/
theorem Wd.gc {S1 S2 : Sto} {W2 : Wo} {r : A} {v : V} (l1 : W.ρ.length = S1.length) (le : Le W W2) (h : Wd K W2 H S2) (q : Ra K W2 v r) : ∃ W3, Le W W3 ∧ Wd K W3 H (gc r S1 S2) ∧ Ra K W3 v r := by
  cases r with
  | d x =>
    simp only [PV.gc]
    split
    · rename_i hf
      refine ⟨⟨W2.F, W.ρ, W2.G⟩, ⟨le.F, ⟨[], by simp⟩, le.G⟩, ⟨h.sub, ?_, ?_, fun k a o e1 e2 => ?_, fun b x e => ?_⟩, q⟩
      · obtain ⟨m, e⟩ := le.ρ
        have := h.len
        rw [e, List.length_append] at this
        rw [List.length_take]
        show W.ρ.length = _
        omega
      · obtain ⟨m, e⟩ := le.ρ
        have := h.nd
        rw [e] at this
        exact (List.nodup_append.mp this).1
      · have e1 : W.ρ[k]? = some a := e1
        have ho : o.flat = true := List.all_eq_true.mp hf o (List.mem_of_getElem? e2)
        have hk : k < S1.length := by
          rcases Nat.lt_or_ge k S1.length with q | q
          · exact q
          · rw [List.getElem?_eq_none (by rw [List.length_take]; omega)] at e2
            cases e2
        rw [List.getElem?_take_of_lt hk] at e2
        have := h.ob k a o (le.get e1) e2
        exact this.stay (fun _ _ z => z) rfl fun z => z
      · obtain ⟨g1, g2, g3⟩ := h.gu b x e
        refine ⟨g1, g2, fun z => ?_⟩
        obtain ⟨m, em⟩ := le.ρ
        exact g3 (by rw [em]; exact List.mem_append_left _ z)
    · exact ⟨W2, le, h, q⟩
  | obj k => exact ⟨W2, le, h, q⟩
  | pr x y => exact ⟨W2, le, h, q⟩
  | seq x => exact ⟨W2, le, h, q⟩
/-- a cell is watched, and let go -/
theorem Wd.watch (h : Wd K W H S) (e : H p = some u) (n : W.F p = none) (ni : p ∉ W.ρ) : Wd K ⟨W.F, W.ρ, upd W.G p u⟩ H S := by
  refine ⟨h.sub, h.len, h.nd, fun j b o e1 e2 => (h.ob j b o e1 e2).stay (fun _ _ z => z) rfl fun z => z, fun b x eg => ?_⟩
  have eg : upd W.G p u b = some x := eg
  by_cases hb : b = p
  · subst hb
    rw [upd_same] at eg
    cases eg
    exact ⟨e, n, ni⟩
  · rw [upd_ne hb] at eg
    exact h.gu b x eg
theorem Wd.unwatch {G : Hp} (h : Wd K W H S) (k : ∀ a u, G a = some u → W.G a = some u) : Wd K ⟨W.F, W.ρ, G⟩ H S :=
  ⟨h.sub, h.len, h.nd, fun j b o e1 e2 => (h.ob j b o e1 e2).stay (fun _ _ z => z) rfl fun z => z, fun b x eg => h.gu b x (k b x eg)⟩
end

/-! ### slots -/
structure Re (K : PySem.W.Frag) (W : Wo) (σ : L2.St) (env : En) : Prop where
  len : σ.length = env.length
  at_ : ∀ (i : Nat) (a : A), env[i]? = some (some a) → ∃ v, σ[i]? = some (some v) ∧ Ra K W v a
section
variable {K : PySem.W.Frag} {W W' : Wo} {σ : L2.St} {env : En}
theorem Re.le (h : Re K W σ env) (l : Le W W') : Re K W' σ env := ⟨h.len, fun i a e => let ⟨v, e1, r⟩ := h.at_ i a e; ⟨v, e1, r.le l⟩⟩
theorem Re.set (h : Re K W σ env) (i : Nat) {v : V} {a : A} (r : Ra K W v a) : Re K W (σ.set i (some v)) (env.set i (some a)) := by
  refine ⟨by rw [List.length_set, List.length_set]; exact h.len, fun j b e => ?_⟩
  by_cases hj : j = i
  · subst hj
    have hl : j < env.length := by
      rcases Nat.lt_or_ge j env.length with q | q
      · exact q
      · rw [List.getElem?_eq_none (by rw [List.length_set]; exact q)] at e
        cases e
    rw [List.getElem?_set_self hl] at e
    cases e
    exact ⟨v, List.getElem?_set_self (by rw [h.len]; exact hl), r⟩
  · rw [List.getElem?_set_ne (Ne.symm hj)] at e
    obtain ⟨w, e1, q⟩ := h.at_ j b e
    exact ⟨w, by rw [List.getElem?_set_ne (Ne.symm hj)]; exact e1, q⟩
theorem Re.forget (h : Re K W σ env) (i : Nat) : Re K W σ (env.set i none) := by
  refine ⟨by rw [List.length_set]; exact h.len, fun j b e => ?_⟩
  by_cases hj : j = i
  · subst hj
    by_cases hl : j < env.length
    · rw [List.getElem?_set_self hl] at e
      cases e
    · rw [List.getElem?_eq_none (by rw [List.length_set]; omega)] at e
      cases e
  · rw [List.getElem?_set_ne (Ne.symm hj)] at e
    exact h.at_ j b e
theorem Re.forgetAll (h : Re K W σ env) : ∀ l : List Nat, Re K W σ (wipeE env l)
  | [] => h
  | i :: l => (h.forgetAll l).forget i
theorem Re.wipe (h : Re K W σ env) : ∀ l : List Nat, Re K W (wipe σ l) (wipeE env l)
  | [] => h
  | i :: l => by
    have ih := h.wipe l
    refine ⟨by unfold L2.wipe wipeE; rw [List.length_set, List.length_set]; exact ih.len, fun j b e => ?_⟩
    unfold wipeE at e
    by_cases hj : j = i
    · subst hj
      by_cases hl : j < (wipeE env l).length
      · rw [List.getElem?_set_self hl] at e
        cases e
      · rw [List.getElem?_eq_none (by rw [List.length_set]; omega)] at e
        cases e
    · rw [List.getElem?_set_ne (Ne.symm hj)] at e
      obtain ⟨w, e1, q⟩ := ih.at_ j b e
      exact ⟨w, by unfold L2.wipe; rw [List.getElem?_set_ne (Ne.symm hj)]; exact e1, q⟩
theorem Re.start {vs : List V} {as : List A} (r : RaA K W vs as) (n : Nat) : Re K W (vs.map some ++ List.replicate n none) (as.map some ++ List.replicate n none) := by
  refine ⟨by simp [r.length], ?_⟩
  induction r with
  | nil =>
    intro i a e
    simp only [List.map_nil, List.nil_append] at e
    rw [List.getElem?_replicate] at e
    split at e <;> cases e
  | cons q r ih =>
    intro i a e
    cases i with
    | zero =>
      simp at e
      subst e
      exact ⟨_, by simp, q⟩
    | succ i => exact ih i a (by simpa using e)
end
end PV

/-! PV3: the operations, by values. -/
namespace PV
open PySem PySem.Spec PyProof.Rows L2

/-- what follows with c -/
def Kt (K : PySem.W.Frag) (W : Wo) (S : Sto) (c : A) (Q : VK) : Prop := ∀ W' v H', Le W W' → Wd K W' H' S → Ra K W' v c → Q v H'
section
variable {K : PySem.W.Frag} {W : Wo} {H : Hp} {S : Sto} {Q : VK} {x : PyData} {p : Addr} {v : V}
theorem Kt.flat (q : Kt K W S (.d x) Q) (wd : Wd K W H S) (r : Rp K W.F v x) : Q v H := q W v H (.refl W) wd r
theorem Kt.newT {vs : List V} {ds : List PyData} (q : Kt K W S (.d (.tuple ds)) Q) (wd : Wd K W H S) (r : RpA K W.F vs ds) (n : H p = none) : Q (.ref p) (upd H p (.tup vs)) :=
  q _ _ _ (Le.upd (wd.freeF n)) (wd.pure n) (.tup (.inl (.inl upd_same)) (r.le (leF_upd (wd.freeF n))))
theorem Kt.newL {vs : List V} {ds : List PyData} (q : Kt K W S (.d (.list ds)) Q) (wd : Wd K W H S) (r : RpA K W.F vs ds) (n : H p = none) : Q (.ref p) (upd H p (.lst vs)) :=
  q _ _ _ (Le.upd (wd.freeF n)) (wd.pure n) (.lst upd_same (r.le (leF_upd (wd.freeF n))))
end
/-- two values and the store give a value -/
def rB (K : PySem.W.Frag) (g : A → A → Sto → Option A) : R2 := fun x y H Q => ∃ W S a b c, Wd K W H S ∧ Ra K W x a ∧ Ra K W y b ∧ g a b S = some c ∧ Kt K W S c Q
def rL (K : PySem.W.Frag) (g : List A → Sto → Option A) : List V → Hp → VK → Prop := fun vs H Q => ∃ W S as c, Wd K W H S ∧ RaA K W vs as ∧ g as S = some c ∧ Kt K W S c Q
theorem szl {n : Nat} (h : n ≤ 16777216) : n ≤ sizeLine := by rw [sizeLine_eq]; exact h
section
variable {X : Cx}

/-! ### + - * % // ** -/
theorem binI_ok {o : Operator} {i j r : Int} (e : binI o i j = some r) {pins : List (Addr × Obj)} {s : Shared} {σ : L2.St} {H : Hp} {v u : Value} {Q : VK} (I : Inv X pins σ H s) (rx : RelV (.int i) v) (ry : RelV (.int j) u) (q : Q (.int r) H) :
    wpAny (model X.prog X.w) X.A (binaryOp o v u) (EP X pins σ Q) X.xe s := by
  cases o with
  | Add =>
    cases e
    exact op_add pins s σ H _ _ v u Q I rx ry ⟨i, j, rfl, rfl, q⟩
  | Sub =>
    cases e
    exact op_sub pins s σ H _ _ v u Q I rx ry ⟨i, j, rfl, rfl, q⟩
  | Mult =>
    simp only [binI] at e
    split at e
    · rename_i hm
      cases e
      exact op_mul pins s σ H _ _ v u Q I rx ry ⟨i, j, rfl, rfl, of_decide_eq_true (p := (-(2 ^ 64) < i ∧ i < 2 ^ 64) ∨ (-(2 ^ 64) < j ∧ j < 2 ^ 64)) hm, q⟩
    · cases e
  | Mod =>
    simp only [binI] at e
    split at e
    · rename_i hm
      cases e
      exact op_modN pins s σ H _ _ v u Q I rx ry ⟨i, j, rfl, rfl, hm, q⟩
    · cases e
  | FloorDiv =>
    simp only [binI] at e
    split at e
    · rename_i hm
      cases e
      exact op_fdivN pins s σ H _ _ v u Q I rx ry ⟨i, j, rfl, rfl, hm, q⟩
    · cases e
  | Pow =>
    simp only [binI] at e
    split at e
    · rename_i hm
      cases e
      exact op_pow pins s σ H _ _ v u Q I rx ry ⟨i, j, rfl, rfl, hm, q⟩
    · cases e
  | _ => cases e
theorem op_bin (o : Operator) : OpR X (binaryOp o) (rB X.K (binF o)) := by
  intro pins s σ H x y v u Q I rx ry ⟨W, S, a, b, c, wd, ra, rb, e, q⟩
  simp only [binF] at e
  split at e
  · rename_i dx dy e1 e2
    have px := wd.deref ra e1
    have py := wd.deref rb e2
    cases eb : binD o dx dy with
    | none =>
      rw [eb] at e
      cases e
    | some d =>
      rw [eb] at e
      cases e
      unfold binD at eb
      split at eb
      · cases px.int
        cases py.int
        rename_i i j
        cases er : binI o i j with
        | none =>
          rw [er] at eb
          cases eb
        | some r =>
          rw [er] at eb
          cases eb
          exact binI_ok er I rx ry (q.flat wd (.int r))
      · cases px.str
        cases py.str
        split at eb
        · rename_i h
          cases eb
          obtain ⟨rfl, h⟩ := h
          exact op_add_str pins s σ H _ _ v u Q I rx ry ⟨_, _, rfl, rfl, szl h, q.flat wd (.str _)⟩
        · cases eb
      · obtain ⟨p1, vs, rfl, h1, r1⟩ := px.list wd.sub
        obtain ⟨p2, ws, rfl, h2, r2⟩ := py.list wd.sub
        split at eb
        · rename_i h
          cases eb
          obtain ⟨rfl, h⟩ := h
          exact op_cat pins s σ H _ _ v u Q I rx ry ⟨p1, p2, vs, ws, rfl, rfl, h1, h2, by rw [r1.length, r2.length]; exact szl h, fun p n => q.newL wd (r1.append r2) n⟩
        · cases eb
      · obtain ⟨p1, vs, rfl, h1, r1⟩ := px.tup
        obtain ⟨p2, ws, rfl, h2, r2⟩ := py.tup
        split at eb
        · rename_i h
          cases eb
          obtain ⟨rfl, h⟩ := h
          refine op_catA pins s σ H _ _ v u Q I rx ry ⟨p1, p2, vs, ws, rfl, rfl, wd.sub.seqT h1, wd.sub.seqT h2, by rw [r1.length, r2.length]; exact szl h, ?_⟩
          have rr := r1.append r2
          refine ⟨fun e => ?_, fun e1 e2 => ?_, fun e1 e2 p n => q.newT wd rr n⟩
          · subst e
            exact q.flat wd (.tup h2 (by simpa using rr))
          · subst e2
            exact q.flat wd (.tup h1 (by simpa using rr))
        · cases eb
      · obtain ⟨p1, vs, rfl, h1, r1⟩ := px.list wd.sub
        cases py.int
        split at eb
        · rename_i h
          cases eb
          obtain ⟨rfl, k1, k2, k3⟩ := h
          exact op_rep pins s σ H _ _ v u Q I rx ry ⟨p1, _, vs, rfl, rfl, h1, k1, k2, by rw [r1.length]; exact szl k3, fun p n => q.newL wd (r1.rep _) n⟩
        · cases eb
      · obtain ⟨p1, vs, rfl, h1, r1⟩ := px.tup
        cases py.int
        split at eb
        · rename_i h
          cases eb
          obtain ⟨rfl, k0, k1, k2, k3⟩ := h
          refine op_repT pins s σ H _ _ v u Q I rx ry ⟨p1, _, vs, rfl, rfl, wd.sub.seqT h1, ?_, k1, k2, by rw [r1.length]; exact k3, fun p n => q.newT wd (r1.rep _) n⟩
          intro z
          subst z
          have := r1.length
          exact k0 (List.eq_nil_of_length_eq_zero this.symm)
        · cases eb
      · cases eb
  · cases e
theorem op_neg {pins : List (Addr × Obj)} {s : Shared} {σ : L2.St} {H : Hp} {i : Int} {v : Value} {Q : VK} (I : Inv X pins σ H s) (rx : RelV (.int i) v) (q : Q (.int (-i)) H) : wpAny (model X.prog X.w) X.A (unaryOp .USub v) (EP X pins σ Q) X.xe s :=
  un_neg pins s σ H _ v Q I rx ⟨i, rfl, q⟩

/-! ### comparisons -/
mutual
theorem ltB_eq : ∀ (x y : PyData), PySem.W.alike x y = true → ltB x y = PySem.W.dataLt x y
  | .none, y, h => by
    cases y with
    | none => rfl
    | _ => exact absurd h (by simp [PySem.W.alike])
  | .bool a, y, h => by
    cases y with
    | bool b =>
      rw [PySem.W.dataLt_bool]
      cases a <;> cases b <;> rfl
    | _ => exact absurd h (by simp [PySem.W.alike])
  | .int a, y, h => by
    cases y with
    | int b =>
      rw [PySem.W.dataLt_int]
      rfl
    | _ => exact absurd h (by simp [PySem.W.alike])
  | .str a, y, h => by
    cases y with
    | str b =>
      rw [PySem.W.dataLt_str]
      rfl
    | _ => exact absurd h (by simp [PySem.W.alike])
  | .list xs, y, h => by
    cases y with
    | list ys =>
      rw [PySem.W.dataLt_list]
      exact ltBs_eq xs ys (by simpa [PySem.W.alike] using h)
    | _ => exact absurd h (by simp [PySem.W.alike])
  | .tuple xs, y, h => by
    cases y with
    | tuple ys =>
      rw [PySem.W.dataLt_tuple]
      exact ltBs_eq xs ys (by simpa [PySem.W.alike] using h)
    | _ => exact absurd h (by simp [PySem.W.alike])
  | .dict _, y, h => absurd h (by cases y <;> simp [PySem.W.alike])
theorem ltBs_eq : ∀ (xs ys : List PyData), PySem.W.alikeAll xs ys = true → ltBs xs ys = PyProof.Rows.lexLt PyProof.Rows.itemOrd (PySem.W.keyToksAll xs) (PySem.W.keyToksAll ys)
  | [], [], _ => rfl
  | [], y :: ys, _ => rfl
  | x :: xs, [], _ => rfl
  | x :: xs, y :: ys, h => by
    have h := PySem.W.alike_all_cons h
    rw [PySem.W.dataLt_cons h.1 xs ys]
    simp only [ltBs]
    rw [ltBs_eq xs ys h.2, ltB_eq x y h.1]
end
end
end PV

/-! PV4: comparisons, items, slices, the built-ins, by values. -/
namespace PV
open PySem PySem.Spec PyProof.Rows L2
section
variable {X : Cx} {pins : List (Addr × Obj)} {s : Shared} {σ : L2.St} {H : Hp} {Q : VK} {W : Wo} {S : Sto}
theorem RpH.reads (I : Inv X pins σ H s) (hs : SubF W.F H) {d : PyData} {v : V} {u : Value} (r : RpH X.K W H v d) (ru : RelV v u) (h : noDic d = true) : ∃ as, Reads s.heap u d as := Dp.reads I d v u (r.dp hs h) ru
theorem noDic_shaped {d : PyData} (h : SeqAt.shaped d = true) : noDic d = true := noDic_lay d (SeqAt.canLay_of_shaped h)
theorem RpH.atom {x : PyData} {v : V} (r : RpH X.K W H v x) (h : atomD x = true) : (x = .none ∧ v = .non) ∨ (∃ b, x = .bool b ∧ v = .bl b) ∨ (∃ i, x = .int i ∧ v = .int i) ∨ ∃ z, x = .str z ∧ v = .str z := by
  cases x with
  | none => exact .inl ⟨rfl, r.none⟩
  | bool b => exact .inr (.inl ⟨b, rfl, r.bool⟩)
  | int i => exact .inr (.inr (.inl ⟨i, rfl, r.int⟩))
  | str z => exact .inr (.inr (.inr ⟨z, rfl, r.str⟩))
  | _ => cases h

/-! ### == and != -/
theorem eq_ok {x y : PyData} {c : Bool} (hu : X.A.units + 64 < cLine) (I : Inv X pins σ H s) (wd : Wd X.K W H S) {vx vy : V} {v u : Value} (px : RpH X.K W H vx x) (py : RpH X.K W H vy y) (rx : RelV vx v) (ry : RelV vy u) (e : eqvD x y = some c) :
    (Q (.bl c) H → wpAny (model X.prog X.w) X.A (compareOp .Eq v u) (EP X pins σ Q) X.xe s) ∧ (Q (.bl (!c)) H → wpAny (model X.prog X.w) X.A (compareOp .NotEq v u) (EP X pins σ Q) X.xe s) := by
  unfold eqvD at e
  split at e
  · rename_i ok
    cases e
    have viaD : SeqAt.shaped x = true → SeqAt.shaped y = true → (Q (.bl (PyData.eqv x y)) H → wpAny (model X.prog X.w) X.A (compareOp .Eq v u) (EP X pins σ Q) X.xe s) ∧ (Q (.bl (!PyData.eqv x y)) H → wpAny (model X.prog X.w) X.A (compareOp .NotEq v u) (EP X pins σ Q) X.xe s) := fun h1 h2 =>
      ⟨fun q => op_eqD hu pins s σ H _ _ v u Q I rx ry ⟨x, y, px.dp wd.sub (noDic_shaped h1), py.dp wd.sub (noDic_shaped h2), h1, h2, q⟩,
       fun q => op_neD hu pins s σ H _ _ v u Q I rx ry ⟨x, y, px.dp wd.sub (noDic_shaped h1), py.dp wd.sub (noDic_shaped h2), h1, h2, q⟩⟩
    have viaS : scal vx vy = true → PyData.eqv x y = decide (vx = vy) → (Q (.bl (PyData.eqv x y)) H → wpAny (model X.prog X.w) X.A (compareOp .Eq v u) (EP X pins σ Q) X.xe s) ∧ (Q (.bl (!PyData.eqv x y)) H → wpAny (model X.prog X.w) X.A (compareOp .NotEq v u) (EP X pins σ Q) X.xe s) := fun h1 h2 => by
      rw [h2]
      exact ⟨fun q => op_eq pins s σ H _ _ v u Q I rx ry ⟨h1, q⟩, fun q => op_ne pins s σ H _ _ v u Q I rx ry ⟨h1, q⟩⟩
    rcases Bool.or_eq_true_iff.mp ok with ok | ok
    · obtain ⟨a1, a2⟩ := Bool.and_eq_true_iff.mp ok
      rcases px.atom a1 with ⟨rfl, rfl⟩ | ⟨b, rfl, rfl⟩ | ⟨i, rfl, rfl⟩ | ⟨z, rfl, rfl⟩ <;> rcases py.atom a2 with ⟨rfl, rfl⟩ | ⟨b', rfl, rfl⟩ | ⟨j, rfl, rfl⟩ | ⟨z', rfl, rfl⟩
      · exact viaS rfl rfl
      · exact viaS rfl rfl
      · exact viaS rfl rfl
      · exact viaS rfl rfl
      · exact viaS rfl rfl
      · exact viaS rfl (by rw [dec_bl]; rfl)
      · exact viaD rfl rfl
      · exact viaS rfl rfl
      · exact viaS rfl rfl
      · exact viaD rfl rfl
      · exact viaS rfl (by rw [dec_int]; rfl)
      · exact viaS rfl rfl
      · exact viaS rfl rfl
      · exact viaS rfl rfl
      · exact viaS rfl rfl
      · exact viaS rfl (by rw [dec_str]; rfl)
    · obtain ⟨a1, a2⟩ := Bool.and_eq_true_iff.mp ok
      exact viaD a1 a2
  · cases e

/-! ### < -/
theorem lt_ok {x y : PyData} {c : Bool} (hu : X.A.units + 64 < cLine) (I : Inv X pins σ H s) (wd : Wd X.K W H S) {vx vy : V} {v u : Value} (px : RpH X.K W H vx x) (py : RpH X.K W H vy y) (rx : RelV vx v) (ry : RelV vy u) (e : ltD x y = some c)
    (q : Q (.bl c) H) : wpAny (model X.prog X.w) X.A (compareOp .Lt v u) (EP X pins σ Q) X.xe s := by
  unfold ltD at e
  split at e
  · rename_i ok
    cases e
    simp only [okLt, Bool.and_eq_true, decide_eq_true_eq] at ok
    obtain ⟨⟨⟨⟨h1, h2⟩, h3⟩, h4⟩, h5⟩ := ok
    obtain ⟨as, r1⟩ := px.reads I wd.sub rx h2
    obtain ⟨bs, r2⟩ := py.reads I wd.sub ry h3
    have hn : x ≠ .none := fun z => by
      subst z
      cases h4
    have := PySem.W.rcLt_alike x y X.A s v u as bs r1 r2 h1 hn (by omega)
    rw [← ltB_eq x y h1] at this
    exact this X.prog X.w X.xe _ ⟨.bl (ltB x y), H, I, rfl, q⟩
  · cases e

/-! ### in -/
theorem any_inV {x : PyData} {vx : V} (px : RpH X.K W H vx x) (ax : atomD x = true) : ∀ {vs : List V} {ds : List PyData}, RpA X.K W.F vs ds → ds.all atomD = true → flatV vx = true ∧ vs.all flatV = true ∧ inV vx vs = ds.any fun z => PyData.eqv z x
  | _, _, .nil, _ => by
    refine ⟨?_, rfl, rfl⟩
    rcases px.atom ax with ⟨rfl, rfl⟩ | ⟨b, rfl, rfl⟩ | ⟨i, rfl, rfl⟩ | ⟨z, rfl, rfl⟩ <;> rfl
  | _, _, .cons (v := v) (d := d) r rr, h => by
    simp only [List.all_cons, Bool.and_eq_true] at h
    obtain ⟨h1, h2, h3⟩ := any_inV px ax rr h.2
    have pr : RpH X.K W H v d := .inl r
    have key : flatV v = true ∧ eqV v vx = PyData.eqv d x := by
      rcases px.atom ax with ⟨rfl, rfl⟩ | ⟨b, rfl, rfl⟩ | ⟨i, rfl, rfl⟩ | ⟨z, rfl, rfl⟩ <;> rcases pr.atom h.1 with ⟨rfl, rfl⟩ | ⟨b', rfl, rfl⟩ | ⟨j, rfl, rfl⟩ | ⟨z', rfl, rfl⟩ <;> exact ⟨rfl, rfl⟩
    refine ⟨h1, by simp [key.1, h2], ?_⟩
    unfold inV at h3 ⊢
    rw [List.any_cons, List.any_cons, h3, key.2]
theorem in_ok {x y : PyData} {c : Bool} (hu : X.A.units + 65 < cLine) (I : Inv X pins σ H s) (wd : Wd X.K W H S) {vx vy : V} {v u : Value} (px : RpH X.K W H vx x) (py : RpH X.K W H vy y) (rx : RelV vx v) (ry : RelV vy u) (e : inD x y = some c) :
    (Q (.bl c) H → wpAny (model X.prog X.w) X.A (compareOp .In v u) (EP X pins σ Q) X.xe s) ∧ (Q (.bl (!c)) H → wpAny (model X.prog X.w) X.A (compareOp .NotIn v u) (EP X pins σ Q) X.xe s) := by
  unfold inD at e
  split at e
  · rename_i ds
    split at e
    · rename_i ok
      cases e
      rcases Bool.or_eq_true_iff.mp ok with ok | ok
      · obtain ⟨a1, a2⟩ := Bool.and_eq_true_iff.mp ok
        obtain ⟨p, vs, rfl, h1, r1⟩ := py.list wd.sub
        obtain ⟨f1, f2, f3⟩ := any_inV px a1 r1 a2
        exact ⟨fun q => op_in_seq pins s σ H _ _ v u Q I rx ry ⟨p, vs, rfl, .inl (.inl (.inl h1)), f1, f2, by rw [f3]; exact q⟩,
          fun q => op_notIn_seq pins s σ H _ _ v u Q I rx ry ⟨p, vs, rfl, .inl (.inl (.inl h1)), f1, f2, by rw [f3]; exact q⟩⟩
      · obtain ⟨a1, a2⟩ := Bool.and_eq_true_iff.mp ok
        have d1 := px.dp wd.sub (noDic_shaped a1)
        have d2 := py.dp wd.sub (noDic_shaped a2)
        exact ⟨fun q => op_inD hu pins s σ H _ _ v u Q I rx ry ⟨x, ds, d1, d2, a1, a2, q⟩, fun q => op_notInD hu pins s σ H _ _ v u Q I rx ry ⟨x, ds, d1, d2, a1, a2, q⟩⟩
    · cases e
  · rename_i ds
    split at e
    · rename_i ok
      cases e
      rcases Bool.or_eq_true_iff.mp ok with ok | ok
      · obtain ⟨a1, a2⟩ := Bool.and_eq_true_iff.mp ok
        obtain ⟨p, vs, rfl, h1, r1⟩ := py.tup
        obtain ⟨f1, f2, f3⟩ := any_inV px a1 r1 a2
        exact ⟨fun q => op_in_seq pins s σ H _ _ v u Q I rx ry ⟨p, vs, rfl, .inr (wd.sub.seqT h1), f1, f2, by rw [f3]; exact q⟩,
          fun q => op_notIn_seq pins s σ H _ _ v u Q I rx ry ⟨p, vs, rfl, .inr (wd.sub.seqT h1), f1, f2, by rw [f3]; exact q⟩⟩
      · obtain ⟨a1, a2⟩ := Bool.and_eq_true_iff.mp ok
        have a3 : SeqAt.shaped (.tuple ds) = true := a2
        obtain ⟨as, r1⟩ := px.reads I wd.sub rx (noDic_shaped a1)
        obtain ⟨bs, r2⟩ := py.reads I wd.sub ry (noDic_shaped a3)
        have c1 : PyData.canLayAll0 ds = true := by simpa [PyData.canLay0] using SeqAt.canLay_of_shaped a3
        exact ⟨fun q => SeqAt.in_tuple_reads r2 r1 c1 (SeqAt.canLay_of_shaped a1) (room_in_shaped a1 hu) ⟨.bl _, H, I, rfl, q⟩,
          fun q => SeqAt.notIn_tuple_reads r2 r1 c1 (SeqAt.canLay_of_shaped a1) (room_in_shaped a1 hu) ⟨.bl _, H, I, rfl, q⟩⟩
    · cases e
  · split at e
    · cases e
      cases px.str
      cases py.str
      exact ⟨fun q => op_in_str pins s σ H _ _ v u Q I rx ry ⟨_, _, rfl, rfl, q⟩, fun q => op_notin_str pins s σ H _ _ v u Q I rx ry ⟨_, _, rfl, rfl, q⟩⟩
    · cases e
  · cases e

/-! ### is -/
theorem notnon_ref {K : PySem.W.Frag} {v : V} {a : A} (r : Ra K W v a) (h : ∀ x, a ≠ .d x) : v ≠ .non := by
  cases a with
  | d x => exact absurd rfl (h x)
  | obj k =>
    obtain ⟨p, _, rfl⟩ := r
    exact fun z => nomatch z
  | pr x y =>
    obtain ⟨p, _, _, rfl, _⟩ := r
    exact fun z => nomatch z
  | seq ns =>
    obtain ⟨p, rfl, _⟩ := r
    exact fun z => nomatch z
theorem is_ok {a : A} {y : PyData} {c : Bool} (I : Inv X pins σ H s) {vx vy : V} {v u : Value} (ra : Ra X.K W vx a) (rb : Rp X.K W.F vy y) (rx : RelV vx v) (ry : RelV vy u) (e : isD a y = some c) :
    (Q (.bl c) H → wpAny (model X.prog X.w) X.A (compareOp .Is v u) (EP X pins σ Q) X.xe s) ∧ (Q (.bl (!c)) H → wpAny (model X.prog X.w) X.A (compareOp .IsNot v u) (EP X pins σ Q) X.xe s) := by
  have non : vy = .non → c = decide (vx = .non) → (Q (.bl c) H → wpAny (model X.prog X.w) X.A (compareOp .Is v u) (EP X pins σ Q) X.xe s) ∧ (Q (.bl (!c)) H → wpAny (model X.prog X.w) X.A (compareOp .IsNot v u) (EP X pins σ Q) X.xe s) := fun h1 h2 => by
    subst h2
    exact ⟨fun q => op_isN pins s σ H _ _ v u Q I rx ry ⟨h1, q⟩, fun q => op_notN pins s σ H _ _ v u Q I rx ry ⟨h1, q⟩⟩
  unfold isD at e
  split at e
  · cases e
    cases ra
    cases rb
    exact non rfl rfl
  · cases e
    cases ra
    cases rb
    exact ⟨fun q => op_isBl pins s σ H _ _ v u Q I rx ry ⟨_, _, rfl, rfl, q⟩, fun q => op_notBl pins s σ H _ _ v u Q I rx ry ⟨_, _, rfl, rfl, q⟩⟩
  · rename_i h
    cases e
    cases rb
    refine non rfl (decide_eq_false ?_).symm
    cases a with
    | d x =>
      cases ra with
      | non => exact (h rfl).elim
      | _ => exact fun z => nomatch z
    | obj k => exact notnon_ref ra fun x z => nomatch z
    | pr x y => exact notnon_ref ra fun x z => nomatch z
    | seq x => exact notnon_ref ra fun x z => nomatch z
  · cases e
theorem op_cmpF (o : CmpOp) (hu : X.A.units + 65 < cLine) : OpR X (compareOp o) (rB X.K fun a b S => (cmpF o a b S).map fun c => .d (.bool c)) := by
  intro pins s σ H x y v u Q I rx ry ⟨W, S, a, b, c, wd, ra, rb, e, q⟩
  have hu' : X.A.units + 64 < cLine := by omega
  cases hc : cmpF o a b S with
  | none =>
    simp only [hc, Option.map_none] at e
    cases e
  | some c' =>
    simp only [hc, Option.map_some] at e
    cases e
    have fin : ∀ {W' H'}, Le W W' → Wd X.K W' H' S → Q (.bl c') H' := fun le w => q _ _ _ le w (.bl c')
    have q0 : Q (.bl c') H := fin (.refl W) wd
    unfold cmpF at hc
    split at hc
    · split at hc
      · exact (is_ok I ra rb rx ry hc).1 q0
      · cases hc
    · split at hc
      · rename_i y'
        cases hi : isD a y' with
        | none =>
          rw [hi] at hc
          cases hc
        | some k =>
          rw [hi] at hc
          cases hc
          exact (is_ok I ra rb rx ry hi).2 q0
      · cases hc
    · split at hc
      · rename_i dx dy e1 e2
        have px := wd.deref ra e1
        have py := wd.deref rb e2
        unfold cmpD at hc
        split at hc
        · exact (eq_ok hu' I wd px py rx ry hc).1 q0
        · cases hi : eqvD dx dy with
          | none =>
            rw [hi] at hc
            cases hc
          | some k =>
            rw [hi] at hc
            cases hc
            exact (eq_ok hu' I wd px py rx ry hi).2 q0
        · exact lt_ok hu' I wd px py rx ry hc q0
        · split at hc
          · cases hc
            cases px.int
            cases py.int
            exact op_le pins s σ H _ _ v u Q I rx ry ⟨_, _, rfl, rfl, q0⟩
          · cases hc
        · split at hc
          · cases hc
            cases px.int
            cases py.int
            exact op_gt pins s σ H _ _ v u Q I rx ry ⟨_, _, rfl, rfl, q0⟩
          · cases hc
        · split at hc
          · cases hc
            cases px.int
            cases py.int
            exact op_ge pins s σ H _ _ v u Q I rx ry ⟨_, _, rfl, rfl, q0⟩
          · cases hc
        · exact (in_ok hu I wd px py rx ry hc).1 q0
        · cases hi : inD dx dy with
          | none =>
            rw [hi] at hc
            cases hc
          | some k =>
            rw [hi] at hc
            cases hc
            exact (in_ok hu I wd px py rx ry hi).2 q0
        · cases hc
      · cases hc
end
end PV

/-! PV5: items, slices, truth, the built-ins, by values. -/
namespace PV
open PySem PySem.Spec PyProof.Rows L2
section
variable {X : Cx}
/-! ### items -/
theorem ix_F : IxR X (rB X.K ixF) := by
  intro value slice pins s σ H x y v u Q I rx ry ⟨W, S, a, b, c, wd, ra, rb, e, q⟩ hsub
  unfold ixF at e
  split at e
  · rename_i a1 a2 i
    cases rb
    obtain ⟨p, vx, vy, rfl, hq, r1, r2⟩ := ra
    split at e
    · rename_i h
      subst h
      cases e
      exact ix_tup value slice pins s σ H _ _ v u Q I rx ry ⟨p, [vx, vy], 0, vx, rfl, rfl, wd.sub.seqT hq, rfl, q W _ H (.refl W) wd r1⟩ hsub
    · split at e
      · rename_i h
        subst h
        cases e
        exact ix_tup value slice pins s σ H _ _ v u Q I rx ry ⟨p, [vx, vy], 1, vy, rfl, rfl, wd.sub.seqT hq, rfl, q W _ H (.refl W) wd r2⟩ hsub
      · cases e
  · split at e
    · rename_i dx dy e1 e2
      have px := wd.deref ra e1
      have py := wd.deref rb e2
      cases hc : ixD dx dy with
      | none =>
        rw [hc] at e
        cases e
      | some d =>
        rw [hc] at e
        cases e
        unfold ixD at hc
        split at hc
        · cases py.int
          obtain ⟨p, vs, rfl, h1, r1⟩ := px.list wd.sub
          obtain ⟨w, h2, h3⟩ := r1.at hc
          exact ix_list value slice pins s σ H _ _ v u Q I rx ry ⟨p, vs, _, w, rfl, rfl, .inl (.inl h1), h2, q.flat wd h3⟩ hsub
        · cases py.int
          obtain ⟨p, vs, rfl, h1, r1⟩ := px.tup
          obtain ⟨w, h2, h3⟩ := r1.at hc
          exact ix_tup value slice pins s σ H _ _ v u Q I rx ry ⟨p, vs, _, w, rfl, rfl, wd.sub.seqT h1, h2, q.flat wd h3⟩ hsub
        · cases py.int
          cases px.str
          split at hc
          · rename_i hz
            rename_i z i
            cases ha : atI z.cps.toList i with
            | none =>
              rw [ha] at hc
              cases hc
            | some k =>
              rw [ha] at hc
              cases hc
              exact ix_str value slice pins s σ H _ _ v u Q I rx ry ⟨z, i, k, rfl, rfl, szl hz, ha, q.flat wd (.str _)⟩ hsub
          · cases hc
        · cases hc
    · cases e

/-! ### slices -/
def rS (K : PySem.W.Frag) : V → Option Int → Option Int → Hp → VK → Prop := fun x lo hi H Q => ∃ W S a dx c, Wd K W H S ∧ Ra K W x a ∧ deref S a = some dx ∧ slcD dx lo hi = some c ∧ Kt K W S (.d c) Q
theorem sl_F : SlR X (rS X.K) := by
  have h1 : SlR X (fun x lo hi H Q => ∃ W S a ds, Wd X.K W H S ∧ Ra X.K W x a ∧ deref S a = some (.list ds) ∧ Kt X.K W S (.d (.list (cutG ds lo hi))) Q) := by
    intro pins s σ H x v vl vu lo hi sl Q I rx hsl rl rh ⟨W, S, a, ds, wd, ra, e, q⟩
    obtain ⟨p, vs, rfl, g1, r1⟩ := (wd.deref ra e).list wd.sub
    exact sl_list pins s σ H _ v vl vu lo hi sl Q I rx hsl rl rh ⟨p, vs, rfl, .inl (.inl g1), fun p n => q.newL wd (r1.cut lo hi) n⟩
  have h2 : SlR X (fun x lo hi H Q => ∃ W S a ds, Wd X.K W H S ∧ Ra X.K W x a ∧ deref S a = some (.tuple ds) ∧ Kt X.K W S (.d (.tuple (cutG ds lo hi))) Q) := by
    intro pins s σ H x v vl vu lo hi sl Q I rx hsl rl rh ⟨W, S, a, ds, wd, ra, e, q⟩
    obtain ⟨p, vs, rfl, g1, r1⟩ := (wd.deref ra e).tup
    refine sl_tupA pins s σ H _ v vl vu lo hi sl Q I rx hsl rl rh ⟨p, vs, rfl, wd.sub.seqT g1, fun z => ?_, fun _ p n => q.newT wd (r1.cut lo hi) n⟩
    refine q.flat wd (.tup g1 ?_)
    have : cutG ds lo hi = ds := by
      unfold cutG
      rw [← r1.length, z.1, z.2, r1.length]
      simp
    rw [this]
    exact r1
  have h3 : SlR X (fun x lo hi H Q => ∃ W S a z, Wd X.K W H S ∧ Ra X.K W x a ∧ deref S a = some (.str z) ∧ z.length ≤ 16777216 ∧ Kt X.K W S (.d (.str (cutS z lo hi))) Q) := by
    intro pins s σ H x v vl vu lo hi sl Q I rx hsl rl rh ⟨W, S, a, ds, wd, ra, e, hz, q⟩
    cases (wd.deref ra e).str
    exact sl_str pins s σ H _ v vl vu lo hi sl Q I rx hsl rl rh ⟨_, rfl, szl hz, q.flat wd (.str _)⟩
  intro pins s σ H x v vl vu lo hi sl Q I rx hsl rl rh ⟨W, S, a, dx, c, wd, ra, e, ec, q⟩
  unfold slcD at ec
  split at ec
  · cases ec
    exact h1 pins s σ H x v vl vu lo hi sl Q I rx hsl rl rh ⟨W, S, a, _, wd, ra, e, q⟩
  · cases ec
    exact h2 pins s σ H x v vl vu lo hi sl Q I rx hsl rl rh ⟨W, S, a, _, wd, ra, e, q⟩
  · split at ec
    · rename_i hz
      cases ec
      exact h3 pins s σ H x v vl vu lo hi sl Q I rx hsl rl rh ⟨W, S, a, _, wd, ra, e, hz, q⟩
    · cases ec
  · cases ec

/-! ### truth -/
theorem tru_V {K : PySem.W.Frag} {W : Wo} {H : Hp} {S : Sto} {v : V} {a : A} {k : Bool} (wd : Wd K W H S) (ra : Ra K W v a) (e : tru S a = some k) : TruV K v H k := by
  unfold tru at e
  cases hd : deref S a with
  | none =>
    rw [hd] at e
    cases e
  | some d =>
    rw [hd] at e
    have e : truD d = some k := e
    have px := wd.deref ra hd
    unfold truD at e
    split at e
    · cases e
      cases px.none
      rfl
    · cases e
      cases px.bool
      rfl
    · cases e
      cases px.int
      rfl
    · cases px.str
      split at e
      · rename_i hz
        cases e
        exact ⟨szl hz, by simp [bne, Bool.beq_eq_decide_eq]⟩
      · cases e
    · cases e
      obtain ⟨p, vs, rfl, h1, r1⟩ := px.list wd.sub
      refine .inl ⟨vs, .inl (.inl h1), ?_⟩
      cases r1 <;> rfl
    · cases e
      obtain ⟨p, vs, rfl, h1, r1⟩ := px.tup
      refine .inr (.inl ⟨vs, wd.sub.seqT h1, ?_⟩)
      cases r1 <;> rfl
    · cases e

/-! ### isinstance -/
def Ty.nm : Ty → String
  | .bool => "bool"
  | .int => "int"
  | .str => "str"
  | .list => "list"
  | .tuple => "tuple"
def tyOf : PyData → String
  | .none => "NoneType"
  | .bool _ => "bool"
  | .int _ => "int"
  | .str _ => "str"
  | .list _ => "list"
  | .tuple _ => "tuple"
  | .dict _ => "dict"
theorem kit_tab {K : PySem.W.Frag} (y : PyData) (t : Ty) : PySem.W.kitOne K (.type (tyOf y)) (.type t.nm) = some (typeOk y t) := by
  cases y with
  | none => cases t <;> first | exact kit_ty (a := "NoneType") (r := true) (by decide +kernel) | exact kit_ty (a := "NoneType") (r := false) (by decide +kernel)
  | bool b => cases t <;> first | exact kit_ty (a := "bool") (r := true) (by decide +kernel) | exact kit_ty (a := "bool") (r := false) (by decide +kernel)
  | int b => cases t <;> first | exact kit_ty (a := "int") (r := true) (by decide +kernel) | exact kit_ty (a := "int") (r := false) (by decide +kernel)
  | str b => cases t <;> first | exact kit_ty (a := "str") (r := true) (by decide +kernel) | exact kit_ty (a := "str") (r := false) (by decide +kernel)
  | list b => cases t <;> first | exact kit_ty (a := "list") (r := true) (by decide +kernel) | exact kit_ty (a := "list") (r := false) (by decide +kernel)
  | tuple b => cases t <;> first | exact kit_ty (a := "tuple") (r := true) (by decide +kernel) | exact kit_ty (a := "tuple") (r := false) (by decide +kernel)
  | dict b => cases t <;> first | exact kit_ty (a := "dict") (r := true) (by decide +kernel) | exact kit_ty (a := "dict") (r := false) (by decide +kernel)
theorem kit_any {K : PySem.W.Frag} (y : PyData) : ∀ ts : List Ty, PySem.W.kitAny K (.type (tyOf y)) (ts.map fun t => Value.type t.nm) = some (ts.any fun t => typeOk y t)
  | [] => kitAny_nil
  | t :: ts => by
    rw [List.map_cons, List.any_cons]
    refine kitAny_cons (b := typeOk y t) (kit_tab y t) (fun h => ?_) fun h => ?_
    · rw [h]
      exact kit_any y ts
    · rw [h]
      rfl
theorem ty_x {K : PySem.W.Frag} {W : Wo} {H : Hp} {v : V} {y : PyData} (hs : SubF W.F H) (r : RpH K W H v y) (h : ∀ z, y ≠ .dict z) : TyX K H v (.type (tyOf y)) := by
  cases y with
  | none =>
    cases r.none
    exact .base .non
  | bool b =>
    cases r.bool
    exact .base (.bl b)
  | int b =>
    cases r.int
    exact .base (.int b)
  | str b =>
    cases r.str
    exact .base (.str b)
  | list ds =>
    obtain ⟨p, vs, rfl, h1, _⟩ := r.list hs
    exact .base (.lst h1)
  | tuple ds =>
    obtain ⟨p, vs, rfl, h1, _⟩ := r.tup
    rcases hs.seqT h1 with (h1 | ⟨o, h1⟩) | ⟨o, _, _, h1, h2, _⟩
    · exact .base (.tup h1)
    · exact .fTuple h1
    · exact .kTuple h1 h2
  | dict z => exact absurd rfl (h z)
end
end PV

/-! PV6: the built-ins, by values. -/
namespace PV
open PySem PySem.Spec PyProof.Rows L2

/-! ### min of data that are alike: the loop of the built-in, the best so far told by its datum -/
section
variable {prog : Program} {w : World} {A : Around}
/-- values told by data, compared while the objects of g stand -/
structure Tell (prog : Program) (w : World) (A : Around) (g : Heap) (T : Value → PyData → Prop) : Prop where
  lt : ∀ (s : Shared) (v u : Value) (x y : PyData) (c : Bool) (Q E : Value → Shared → Prop), (∀ b o, g.get? b = some o → s.heap.get? b = some o) → T v x → T u y → ltD x y = some c → Q (.bool c) s → wpAny (model prog w) A (richCompare .Lt v u) Q E s
def TellA (T : Value → PyData → Prop) (items : Array Value) (ds : List PyData) : Prop := items.size = ds.length ∧ ∀ (i : Nat) (v : Value), items[i]? = some v → ∃ x, ds[i]? = some x ∧ T v x
theorem min_turns {g : Heap} {T : Value → PyData → Prop} {it S : Addr} {fp wr : List Addr} {items : Array Value} {ds : List PyData} {St : Nat → Heap → Prop} {R : Result → Shared → Prop} {r : PyData}
    (W : Walks prog w A.in1 it fp wr items.size (fun i v => items[i]? = some v) St) (C : Tell prog w A.in1 g T) (B : TellA T items ds) (hS : S ∉ fp) (gS : g.get? S = none) (gw : ∀ b ∈ wr, g.get? b = none) :
    ∀ (k i : Nat) (s : Shared) (v : Value) (x : PyData) (c : Nat), ds.length - i = k → i ≤ ds.length → St i s.heap → (∀ b o, g.get? b = some o → s.heap.get? b = some o) → T v x → minD x (ds.drop i) = some r →
      s.heap.get? S = some { cls := .type "list", dict := none, data := .seq #[v, v] c, slots := #[] } →
      (∀ u h' tk, T u r → (∀ b o, b ∉ wr → b ≠ S → s.heap.get? b = some o → h'.get? b = some o) → R (.ok (.ret u)) { s with heap := h', toks := tk }) →
      codeAny (model prog w) A (.builtin "min.loop" ⟨[.ref it, .none, .ref S], []⟩) R s := by
  have hw : S ∉ wr := fun z => hS (W.sub _ z)
  have hid : (toString "min" ++ toString ".loop" : String) = "min.loop" := by decide
  have low : ∀ {h h' : Heap}, (∀ b o, g.get? b = some o → h.get? b = some o) → (∀ b o, b ∉ wr → h.get? b = some o → h'.get? b = some o) → ∀ b o, g.get? b = some o → h'.get? b = some o := fun a z b o e =>
    z b o (fun q => by rw [gw b q] at e; cases e) (a b o e)
  have upS : ∀ {h : Heap} {f : Obj → Obj}, (∀ b o, g.get? b = some o → h.get? b = some o) → ∀ b o, g.get? b = some o → (h.update S f).get? b = some o := fun a b o e =>
    (Heap.get?_update_other _ _ (fun z : S = b => by rw [← z, gS] at e; cases e)).trans (a b o e)
  intro k
  induction k with
  | zero =>
    intro i s v x c hk hi st hg tv em hl hR
    have ei : i = ds.length := by omega
    rw [ei, List.drop_length] at em
    cases em
    refine codeAny_builtin F.entry_min_loop ?_
    rw [Around.under_plainId F.plain_min_loop _]
    show wpAny _ A.in1 (seqItems? (.ref S) >>= _) _ _ s
    refine wpAny_bind (wpAny_seqItems hl rfl ?_)
    show wpAny _ A.in1 (tryCatch (pyNext (.ref it)) _ >>= _) _ _ s
    have ez : i = items.size := ei.trans B.1.symm
    refine wpAny_bind (wpAny_tryCatch (W.done s _ _ (ez ▸ st) fun h' tk kept => ?_))
    show wpAny _ A.in1 (updateSeq S (fun _ => #[]) >>= _) _ _ _
    refine wpAny_bind (wpAny_updateSeq (kept S _ hw hl) rfl (wpAny_bind (wpAny_letGo (wpAny_pure ?_))))
    exact hR v _ tk tv fun b o b1 b2 e => (Heap.get?_update_other _ _ (Ne.symm b2)).trans (kept b o b1 e)
  | succ k ih =>
    intro i s v x c hk hi st hg tv em hl hR
    have lt : i < ds.length := by omega
    have lt' : i < items.size := by rw [B.1]; exact lt
    rw [List.drop_eq_getElem_cons lt] at em
    simp only [minD] at em
    refine codeAny_builtin F.entry_min_loop ?_
    rw [Around.under_plainId F.plain_min_loop _]
    show wpAny _ A.in1 (seqItems? (.ref S) >>= _) _ _ s
    refine wpAny_bind (wpAny_seqItems hl rfl ?_)
    show wpAny _ A.in1 (tryCatch (pyNext (.ref it)) _ >>= _) _ _ s
    refine wpAny_bind (wpAny_tryCatch (W.item i s _ _ lt' st fun u h' tk hu st' kept => ?_))
    obtain ⟨y, hy, ty⟩ := B.2 i u hu
    have ey : y = ds[i] := by
      rw [List.getElem?_eq_getElem lt] at hy
      exact (Option.some.inj hy).symm
    subst ey
    have hl' := kept S _ hw hl
    have hg' := low hg kept
    split at em
    · cases em
    · rename_i ec
      show wpAny _ A.in1 (tryCatch (holding [u, u] (richCompare .Lt u v >>= _)) _ >>= _) _ _ _
      refine wpAny_bind (wpAny_tryCatch (wpAny_holding (wpAny_bind (C.lt _ u v _ _ true _ _ hg' ty tv ec ?_))))
      refine wpAny_bind (wpAny_holding (wpAny_truthy_bool (wpAny_bind (wpAny_letGo (wpAny_pure ?_)))))
      simp only [if_true]
      refine wpAny_bind (wpAny_updateSeq hl' rfl (wpAny_bind (wpAny_letGo ?_)))
      rw [hid]
      refine wpAny_pure ⟨plainId_quiet F.plain_min_loop _, ih (i + 1) _ u _ _ (by omega) lt (W.frame _ _ _ st' fun b hb o e => ?_) (upS hg') ty em (Heap.get?_update_self _ hl' rfl) fun u' h'' tk'' tr kept' => ?_⟩
      · exact (Heap.get?_update_other _ _ (fun z : S = b => hS (by rw [z]; exact hb))).trans e
      · exact hR u' h'' tk'' tr fun b o b1 b2 e => kept' b o b1 b2 ((Heap.get?_update_other _ _ (Ne.symm b2)).trans (kept b o b1 e))
    · rename_i ec
      show wpAny _ A.in1 (tryCatch (holding [u, u] (richCompare .Lt u v >>= _)) _ >>= _) _ _ _
      refine wpAny_bind (wpAny_tryCatch (wpAny_holding (wpAny_bind (C.lt _ u v _ _ false _ _ hg' ty tv ec ?_))))
      refine wpAny_bind (wpAny_holding (wpAny_truthy_bool (wpAny_bind (wpAny_letGo (wpAny_pure ?_)))))
      simp only [Bool.false_eq_true, if_false]
      refine wpAny_bind (wpAny_letGo ?_)
      rw [hid]
      exact wpAny_pure ⟨plainId_quiet F.plain_min_loop _, ih (i + 1) _ v _ c (by omega) lt st' hg' tv em hl' fun u' h'' tk'' tr kept' => hR u' h'' tk'' tr fun b o b1 b2 e => kept' b o b1 b2 (kept b o b1 e)⟩
theorem min_first {g : Heap} {T : Value → PyData → Prop} {it S : Addr} {fp wr : List Addr} {items : Array Value} {d : PyData} {ds : List PyData} {St : Nat → Heap → Prop} {R : Result → Shared → Prop} {r : PyData}
    (W : Walks prog w A.in1 it fp wr items.size (fun i v => items[i]? = some v) St) (C : Tell prog w A.in1 g T) (B : TellA T items (d :: ds)) (hS : S ∉ fp) (gS : g.get? S = none) (gw : ∀ b ∈ wr, g.get? b = none)
    {s : Shared} {c : Nat} (st : St 0 s.heap) (hg : ∀ b o, g.get? b = some o → s.heap.get? b = some o) (em : minD d ds = some r) (hl : s.heap.get? S = some { cls := .type "list", dict := none, data := .seq #[] c, slots := #[] })
    (hR : ∀ u h' tk, T u r → (∀ b o, b ∉ wr → b ≠ S → s.heap.get? b = some o → h'.get? b = some o) → R (.ok (.ret u)) { s with heap := h', toks := tk }) :
    codeAny (model prog w) A (.builtin "min.loop" ⟨[.ref it, .none, .ref S], []⟩) R s := by
  have hw : S ∉ wr := fun z => hS (W.sub _ z)
  have hid : (toString "min" ++ toString ".loop" : String) = "min.loop" := by decide
  have lt : 0 < items.size := by
    rw [B.1]
    exact Nat.succ_pos _
  refine codeAny_builtin F.entry_min_loop ?_
  rw [Around.under_plainId F.plain_min_loop _]
  show wpAny _ A.in1 (seqItems? (.ref S) >>= _) _ _ s
  refine wpAny_bind (wpAny_seqItems hl rfl ?_)
  show wpAny _ A.in1 (tryCatch (pyNext (.ref it)) _ >>= _) _ _ s
  refine wpAny_bind (wpAny_tryCatch (W.item 0 s _ _ lt st fun u h' tk hu st' kept => ?_))
  obtain ⟨y, hy, ty⟩ := B.2 0 u hu
  have ey : y = d := by simpa using hy.symm
  subst ey
  have hl' := kept S _ hw hl
  show wpAny _ A.in1 (updateSeq S (fun _ => #[u, u]) >>= _) _ _ _
  refine wpAny_bind (wpAny_updateSeq hl' rfl ?_)
  rw [hid]
  refine wpAny_pure ⟨plainId_quiet F.plain_min_loop _, min_turns W C B hS gS gw _ 1 _ u y _ rfl (by simp) (W.frame _ _ _ st' fun b hb o e => ?_) (fun b o e => ?_) ty (by simpa using em) (Heap.get?_update_self _ hl' rfl) fun u' h'' tk'' tr kept' => ?_⟩
  · exact (Heap.get?_update_other _ _ (fun z : S = b => hS (by rw [z]; exact hb))).trans e
  · refine (Heap.get?_update_other _ _ (fun z : S = b => by rw [← z, gS] at e; cases e)).trans (kept b o (fun q => by rw [gw b q] at e; cases e) (hg b o e))
  · exact hR u' h'' tk'' tr fun b o b1 b2 e => kept' b o b1 b2 ((Heap.get?_update_other _ _ (Ne.symm b2)).trans (kept b o b1 e))
end
section
variable {prog : Program} {w : World} {A : Around} {E : Value → Shared → Prop} {s : Shared}
theorem call_min_data {l : Addr} {items : Array Value} {T : Value → PyData → Prop} {d r : PyData} {ds : List PyData} {Q : Value → Shared → Prop} (hh : A.handled = none) (hl : s.heap.IsList l items) (C : Tell prog w A.in1 s.heap T) (B : TellA T items (d :: ds)) (em : minD d ds = some r)
    (hQ : ∀ u h' tk, T u r → (∀ b o, s.heap.get? b = some o → h'.get? b = some o) → Q u { s with heap := h', toks := tk }) : wpAny (model prog w) A (call (.builtin "min") [.ref l]) Q E s := by
  have hid : (toString "min" ++ toString ".loop" : String) = "min.loop" := by decide
  have ll : l < s.heap.objs.size := by
    obtain ⟨_, e, _⟩ := hl
    exact Heap.lt_size e
  refine call_function_tree F.kind_min F.plain_min F.entry_min (F.args_min1 _) ?_
  show wpAny _ A.in1 (Builtin.Builtins.bindParams "min" ["key", "default"] 0 ⟨[], []⟩ >>= _) _ _ s
  refine wpAny_bind (wpAny_of_eq (show Builtin.Builtins.bindParams "min" ["key", "default"] 0 ⟨[], []⟩ = pure [none, none] from rfl) ?_)
  refine wpAny_bind (wpAny_pure (wpAny_bind (wpAny_pyIter_list hl ?_)))
  have W : Walks prog w A.in1 s.heap.objs.size [s.heap.objs.size, l] [s.heap.objs.size] items.size (fun i v => items[i]? = some v) (fun i h => h.IsListIter s.heap.objs.size l i ∧ h.IsList l items) := Walks.list (A := A.in1) hh _ l (Nat.ne_of_lt ll) items
  refine wpAny_bind (wpAny_newObj_type ?_)
  rw [hid]
  have sz : (s.heap.push { cls := .type "list_iterator", data := .fields #[.ref l, .int 0 0] }).objs.size = s.heap.objs.size + 1 := Heap.size_push ..
  have old : ∀ b o, s.heap.get? b = some o → ((s.heap.push { cls := .type "list_iterator", data := .fields #[.ref l, .int 0 0] }).push { cls := .type "list", data := .seq #[] }).get? b = some o := fun b o e => Heap.get?_push_of_some _ (Heap.get?_push_of_some _ e)
  refine wpAny_pure ⟨plainId_quiet F.plain_min_loop _, min_first (g := s.heap) W C B (fun hm => ?_) (Heap.get?_none_of_le (by rw [sz]; exact Nat.le_succ _)) (fun b hb => ?_) ⟨⟨_, Heap.get?_push_of_some _ (Heap.get?_push_size _ rfl), rfl, rfl⟩, (hl.push _).push _⟩ old em (Heap.get?_push_size _ rfl) fun u h' tk tu kept => ?_⟩
  · rcases List.mem_cons.mp hm with e | hm
    · have : (s.heap.push { cls := .type "list_iterator", data := .fields #[.ref l, .int 0 0] }).objs.size = s.heap.objs.size := e
      rw [sz] at this
      exact absurd this (Nat.succ_ne_self _)
    · have e : (s.heap.push { cls := .type "list_iterator", data := .fields #[.ref l, .int 0 0] }).objs.size = l := by simpa using hm
      rw [sz] at e
      exact absurd ll (by rw [← e]; exact Nat.not_lt.mpr (Nat.le_succ _))
  · have e : b = s.heap.objs.size := by simpa using hb
    rw [e]
    exact Heap.get?_none_of_le (Nat.le_refl _)
  · refine hQ u h' tk tu fun b o e => kept b o (fun hm => ?_) (fun z => ?_) (old b o e)
    · have z : b = s.heap.objs.size := by simpa using hm
      rw [z] at e
      exact absurd (Heap.lt_size e) (Nat.lt_irrefl _)
    · have z : b = (s.heap.push { cls := .type "list_iterator", data := .fields #[.ref l, .int 0 0] }).objs.size := z
      rw [z, sz] at e
      exact absurd (Heap.lt_size e) (Nat.not_lt.mpr (Nat.le_succ _))
end
end PV

namespace PV
open PySem PySem.Spec PyProof.Rows L2
section
variable {prog : Program} {w : World} {A : Around} {E : Value → Shared → Prop} {s : Shared}
theorem call_min_pair {a b : Value} {T : Value → PyData → Prop} {x y r : PyData} {Q : Value → Shared → Prop} (hh : A.handled = none) (C : Tell prog w A.in1 s.heap T) (ta : T a x) (tb : T b y) (em : minD x [y] = some r)
    (hQ : ∀ u h' tk, T u r → (∀ b o, s.heap.get? b = some o → h'.get? b = some o) → Q u { s with heap := h', toks := tk }) : wpAny (model prog w) A (call (.builtin "min") [a, b]) Q E s := by
  have hid : (toString "min" ++ toString ".loop" : String) = "min.loop" := by decide
  refine call_function_tree F.kind_min F.plain_min F.entry_min (F.args_min2 _ _) ?_
  show wpAny _ A.in1 (Builtin.Builtins.bindParams "min" ["key", "default"] 0 ⟨[], []⟩ >>= _) _ _ s
  refine wpAny_bind (wpAny_of_eq (show Builtin.Builtins.bindParams "min" ["key", "default"] 0 ⟨[], []⟩ = pure [none, none] from rfl) ?_)
  show wpAny _ A.in1 (newTuple [a, b] >>= _) _ _ s
  refine wpAny_bind (wpAny_newObj_type ?_)
  generalize hg : (s.heap.push { cls := .type "tuple", data := .seq [a, b].toArray }) = g
  have gs : g.objs.size = s.heap.objs.size + 1 := by rw [← hg]; exact Heap.size_push ..
  have ht : g.IsTuple s.heap.objs.size #[a, b] := by
    rw [← hg]
    exact ⟨_, Heap.get?_push_size _ rfl, rfl, 0, rfl⟩
  have up : ∀ c o, s.heap.get? c = some o → g.get? c = some o := fun c o e => by
    rw [← hg]
    exact Heap.get?_push_of_some _ e
  refine wpAny_bind (wpAny_pyIter_tuple (s := { s with heap := g }) ht ?_)
  have sz : (g.push { cls := .type "tuple_iterator", data := .fields #[.ref s.heap.objs.size, .int 0 0] }).objs.size = g.objs.size + 1 := Heap.size_push ..
  have old : ∀ c o, s.heap.get? c = some o → ((g.push { cls := .type "tuple_iterator", data := .fields #[.ref s.heap.objs.size, .int 0 0] }).push { cls := .type "list", data := .seq #[] }).get? c = some o := fun c o e =>
    Heap.get?_push_of_some _ (Heap.get?_push_of_some _ (up c o e))
  have W : Walks prog w A.in1 g.objs.size [g.objs.size, s.heap.objs.size] [g.objs.size] (#[a, b] : Array Value).size (fun i v => (#[a, b] : Array Value)[i]? = some v) (fun i h => h.IsTupleIter g.objs.size s.heap.objs.size i ∧ h.IsTuple s.heap.objs.size #[a, b]) :=
    Walks.tuple (A := A.in1) hh _ _ (by rw [gs]; exact Nat.ne_of_lt (Nat.lt_succ_self _)) #[a, b]
  refine wpAny_bind (wpAny_newObj_type ?_)
  rw [hid]
  refine wpAny_pure ⟨plainId_quiet F.plain_min_loop _, min_first (g := s.heap) (d := x) (ds := [y]) W C ⟨rfl, fun i v hi => ?_⟩ (fun hm => ?_) (Heap.get?_none_of_le (by rw [sz, gs]; omega)) (fun c hb => ?_) ⟨⟨_, Heap.get?_push_of_some _ (Heap.get?_push_size _ rfl), rfl, rfl⟩, (ht.push _).push _⟩ old em (Heap.get?_push_size _ rfl) fun u h' tk tu kept => ?_⟩
  · match i, hi with
    | 0, hi =>
      cases hi
      exact ⟨x, rfl, ta⟩
    | 1, hi =>
      cases hi
      exact ⟨y, rfl, tb⟩
    | i + 2, hi => simp at hi
  · rcases List.mem_cons.mp hm with e | hm
    · have : (g.push { cls := .type "tuple_iterator", data := .fields #[.ref s.heap.objs.size, .int 0 0] }).objs.size = g.objs.size := e
      rw [sz] at this
      exact absurd this (Nat.succ_ne_self _)
    · have e : (g.push { cls := .type "tuple_iterator", data := .fields #[.ref s.heap.objs.size, .int 0 0] }).objs.size = s.heap.objs.size := by simpa using hm
      rw [sz, gs] at e
      omega
  · have e : c = g.objs.size := by simpa using hb
    rw [e]
    exact Heap.get?_none_of_le (by rw [gs]; omega)
  · refine hQ u h' tk tu fun c o e => kept c o (fun hm => ?_) (fun z => ?_) (old c o e)
    · have z : c = g.objs.size := by simpa using hm
      rw [z] at e
      have := Heap.lt_size e
      rw [gs] at this
      exact absurd this (Nat.not_lt.mpr (Nat.le_succ _))
    · have z : c = (g.push { cls := .type "tuple_iterator", data := .fields #[.ref s.heap.objs.size, .int 0 0] }).objs.size := z
      rw [z] at e
      have := Heap.lt_size e
      rw [sz, gs] at this
      exact absurd this (Nat.not_lt.mpr (Nat.le_trans (Nat.le_succ _) (Nat.le_succ _)))
end

section
variable {X : Cx}
/-- values told by data that never change -/
def TellV (K : PySem.W.Frag) (W : Wo) : Value → PyData → Prop := fun u d => ∃ v, RelV v u ∧ Rp K W.F v d
theorem tell_ok {pins : List (Addr × Obj)} {s : Shared} {σ : L2.St} {H : Hp} {W : Wo} {S : Sto} (hu : X.A.units + 65 < cLine) (I : Inv X pins σ H s) (wd : Wd X.K W H S) : Tell X.prog X.w X.A.in1 s.heap (TellV X.K W) := by
  refine ⟨fun s2 v u x y c Q E kept ⟨v1, r1, p1⟩ ⟨v2, r2, p2⟩ e q => ?_⟩
  unfold ltD at e
  split at e
  · rename_i ok
    cases e
    simp only [okLt, Bool.and_eq_true, decide_eq_true_eq] at ok
    obtain ⟨⟨⟨⟨h1, h2⟩, h3⟩, h4⟩, h5⟩ := ok
    obtain ⟨as, g1⟩ := RpH.reads I wd.sub (.inl p1) r1 h2
    obtain ⟨bs, g2⟩ := RpH.reads I wd.sub (.inl p2) r2 h3
    have hn : x ≠ .none := fun z => by
      subst z
      cases h4
    have hu1 : X.A.in1.units = X.A.units + 1 := rfl
    have := PySem.W.rcLt_alike x y X.A.in1 s2 v u as bs (PyProof.Rows.Reads.keeps kept g1) (PyProof.Rows.Reads.keeps kept g2) h1 hn (by omega)
    rw [← ltB_eq x y h1] at this
    exact this X.prog X.w E _ q
  · cases e
def blV : Bl → Value
  | .len => .builtin "len"
  | .sum => .builtin "sum"
  | .mn => .builtin "min"
  | .mx => .builtin "max"
  | .any => .builtin "any"
  | .all => .builtin "all"
  | .sorted => .builtin "sorted"
  | .list => .type "list"
  | .tuple => .type "tuple"
  | .int => .type "int"
  | .abs => .builtin "abs"
theorem maxI_spec : ∀ (m : Int) (ns : List Int), maxI m ns ∈ m :: ns ∧ ∀ y ∈ m :: ns, y ≤ maxI m ns
  | m, [] => by simp [maxI]
  | m, x :: xs => by
    obtain ⟨h1, h2⟩ := maxI_spec (if m < x then x else m) xs
    unfold maxI
    refine ⟨?_, fun y hy => ?_⟩
    · rcases List.mem_cons.mp h1 with e | e
      · rw [e]
        split <;> simp
      · exact List.mem_cons_of_mem _ (List.mem_cons_of_mem _ e)
    · have h0 : (if m < x then x else m) ≤ maxI (if m < x then x else m) xs := h2 _ List.mem_cons_self
      have h3 : m ≤ (if m < x then x else m) ∧ x ≤ (if m < x then x else m) := by
        split <;> omega
      rcases List.mem_cons.mp hy with e | hy
      · rw [e]
        exact Int.le_trans h3.1 h0
      · rcases List.mem_cons.mp hy with e | hy
        · rw [e]
          exact Int.le_trans h3.2 h0
        · exact h2 y (List.mem_cons_of_mem _ hy)
theorem alikeRow_all : ∀ {ds : List PyData}, alikeRow ds = true → PySem.W.AllAlike ds
  | [], _ => fun _ h => by cases h
  | x :: xs, h => by
    simp only [alikeRow, Bool.and_eq_true, List.all_eq_true] at h
    obtain ⟨⟨h1, h2⟩, h3⟩ := h
    have ih := alikeRow_all h3
    intro d hd e he
    rcases List.mem_cons.mp hd with q | hd <;> rcases List.mem_cons.mp he with q' | he
    · rw [q, q']
      exact h2
    · rw [q]
      exact (h1 e he).1
    · rw [q']
      exact (h1 d hd).2
    · exact ih d hd e he
theorem sortable_of {ds : List PyData} (h : (ds.all isTupD || ds.all noTupD) = true) : PySem.W.Sortable ds := by
  rcases Bool.or_eq_true_iff.mp h with h | h
  · refine .inl fun d hd => ?_
    have := List.all_eq_true.mp h d hd
    cases d with
    | tuple xs =>
      cases xs with
      | nil => cases this
      | cons x r => exact ⟨x, r, rfl⟩
    | _ => cases this
  · refine .inr fun d hd => ?_
    have := List.all_eq_true.mp h d hd
    cases d with
    | none => cases this
    | tuple xs => cases this
    | _ =>
      refine ⟨?_, ?_⟩
      · intro z
        cases z
      · intro _ z
        cases z
theorem eachIs_zip {α β γ : Type} {R : α → β → Prop} {T : β → γ → Prop} : ∀ {vs : List α} {us : List β} {ds : List γ}, Paired (fun v u => R v u) vs us → vs.length = ds.length → PySem.W.EachIs (fun (u : β) (p : α × γ) => R p.1 u) us (vs.zip ds)
  | _, _, [], .nil, _ => .nil
  | _, _, d :: ds, .cons r t, h => .cons r (eachIs_zip (T := T) t (by simpa using h))
theorem rpa_zip {K : PySem.W.Frag} {F : Hp} : ∀ {xs : List V} {ds : List PyData}, RpA K F xs ds → ∀ b ∈ xs.zip ds, Rp K F b.1 b.2
  | _, _, .nil, _, hb => by cases hb
  | _, _, .cons q r, b, hb => by
    rcases List.mem_cons.mp hb with e | hb
    · rw [e]
      exact q
    · exact rpa_zip r b hb
theorem minD_mem : ∀ {m : PyData} {l : List PyData} {r : PyData}, minD m l = some r → r ∈ m :: l
  | m, [], r, h => by
    cases h
    exact List.mem_cons_self
  | m, x :: l, r, h => by
    unfold minD at h
    split at h
    · cases h
    · exact List.mem_cons_of_mem _ (minD_mem h)
    · rcases List.mem_cons.mp (minD_mem h) with e | e
      · rw [e]
        exact List.mem_cons_self
      · exact List.mem_cons_of_mem _ (List.mem_cons_of_mem _ e)
theorem sorted_ok (hu : X.A.units + 65 < cLine) : CallR X (.builtin "sorted") (fun vs H Q => ∃ W S p xs ds ys, Wd X.K W H S ∧ vs = [.ref p] ∧ H p = some (.lst xs) ∧ RpA X.K W.F xs ds ∧ sortD ds = some ys ∧ ∀ q zs, H q = none → RpA X.K W.F zs ys → Q (.ref q) (upd H q (.lst zs))) := by
  intro pins s σ H vs us Q I r ⟨W, S, p, xs, ds, ys, wd, e0, hp, rp, es, q⟩
  subst e0
  obtain ⟨u, rfl, ru⟩ := vals1 r
  cases ru
  unfold sortD at es
  split at es
  · rename_i ok
    cases es
    obtain ⟨o1, o2, o3, o4⟩ := ok
    obtain ⟨z, its, n, rv, hl⟩ := I.hok p _ hp
    have hlen := rp.length
    have e2 : (xs.zip ds).map Prod.snd = ds := List.map_snd_zip (by omega)
    have e1 : (xs.zip ds).map Prod.fst = xs := List.map_fst_zip (by omega)
    have mem : ∀ b ∈ xs.zip ds, Rp X.K W.F b.1 b.2 := by
      exact rpa_zip rp
    have al : PySem.W.AllAlike ((xs.zip ds).map Prod.snd) := by
      rw [e2]
      exact alikeRow_all o1
    have so : PySem.W.Sortable ((xs.zip ds).map Prod.snd) := by
      rw [e2]
      exact sortable_of o3
    refine PySem.W.sorted_data (β := V × PyData) (bs := xs.zip ds) (enc := Prod.snd) (R := fun u b => RelV b.1 u) (vs := its) ⟨_, hl, rfl, n, rfl⟩ (eachIs_zip (T := fun _ _ => True) rv hlen) ?_ al so (by rw [List.length_zip]; exact Nat.le_trans (Nat.min_le_left _ _) z) (fun b hb => ?_) fun out ho eo => ?_
    · have nd : ∀ b ∈ xs.zip ds, noDic b.2 = true := fun b hb => noDics_mem o2 (List.of_mem_zip hb).2
      have go : ∀ {vs : List Value} {bs : List (V × PyData)}, PySem.W.EachIs (fun (u : Value) (b : V × PyData) => RelV b.1 u) vs bs → (∀ b ∈ bs, Rp X.K W.F b.1 b.2 ∧ noDic b.2 = true) → PySem.W.EachIs (fun v b => ∃ as, Reads s.heap v (Prod.snd b) as) vs bs := by
        intro vs bs e h
        induction e with
        | nil => exact .nil
        | cons r t ih =>
          obtain ⟨h1, h2⟩ := h _ List.mem_cons_self
          exact .cons (RpH.reads I wd.sub (.inl h1) r h2) (ih fun b hb => h b (List.mem_cons_of_mem _ hb))
      exact go (eachIs_zip (T := fun _ _ => True) rv hlen) fun b hb => ⟨mem b hb, nd b hb⟩
    · have := of_decide_eq_true (List.all_eq_true.mp o4 b.2 (List.of_mem_zip hb).2)
      omega
    · have em : ((xs.zip ds).mergeSort (PySem.W.dataLe false Prod.snd)).map Prod.snd = ds.mergeSort fun x y => !ltB y x := by
        rw [List.map_mergeSort (s := fun x y => !ltB y x) (fun a ha b hb => ?_), e2]
        rw [PySem.W.dataLe_eq]
        show (!PySem.W.dataLt b.2 a.2) = _
        rw [ltB_eq]
        exact alikeRow_all o1 _ (List.of_mem_zip hb).2 _ (List.of_mem_zip ha).2
      obtain ⟨c, hc⟩ := PyProof.Rows.sortedAll_at s.heap its out.toArray
      have key : ∀ {us : List Value} {bs : List (V × PyData)}, PySem.W.EachIs (fun (u : Value) (b : V × PyData) => RelV b.1 u) us bs → Vals (bs.map Prod.fst) us := by
        intro us bs e
        induction e with
        | nil => exact .nil
        | cons r t ih => exact .cons r ih
      have rz : RpA X.K W.F (((xs.zip ds).mergeSort (PySem.W.dataLe false Prod.snd)).map Prod.fst) (ds.mergeSort fun x y => !ltB y x) := by
        rw [← em]
        have all : ∀ b ∈ (xs.zip ds).mergeSort (PySem.W.dataLe false Prod.snd), Rp X.K W.F b.1 b.2 := fun b hb => mem b ((List.mem_mergeSort).mp hb)
        generalize (xs.zip ds).mergeSort (PySem.W.dataLe false Prod.snd) = l at all
        induction l with
        | nil => exact .nil
        | cons b l ih => exact .cons (all b List.mem_cons_self) (ih fun b hb => all b (List.mem_cons_of_mem _ hb))
      have hq : H (s.heap.objs.size + 1) = none := I.hok.fresh (Nat.le_succ _)
      refine ⟨.ref (s.heap.objs.size + 1), _, I.laid (t' := s.toks) (o := .lst (((xs.zip ds).mergeSort (PySem.W.dataLe false Prod.snd)).map Prod.fst)) (fun _ _ => PyProof.Rows.sortedAll_old) (Nat.le_succ _) ⟨?_, out, c, key eo, hc⟩, rfl, q _ _ hq rz⟩
      rw [List.length_map, List.length_mergeSort, List.length_zip]
      exact Nat.le_trans (Nat.min_le_left _ _) z
  · cases es
theorem bl1_ok (b : Bl) (hc : X.calm = true) (hu : X.A.units + 65 < cLine) {pins : List (Addr × Obj)} {s : Shared} {σ : L2.St} {H : Hp} {v : V} {us : List Value} {Q : VK} {W : Wo} {S : Sto} {x d : PyData} (I : Inv X pins σ H s) (r : Vals [v] us) (wd : Wd X.K W H S)
    (px : RpH X.K W H v x) (eb : bltD b x = some d) (q : Kt X.K W S (.d d) Q) : wpAny (model X.prog X.w) X.A (call (blV b) us) (EP X pins σ Q) X.xe s := by
  have hd := I.ok.hd hc
  cases b with
  | len =>
    simp only [bltD] at eb
    cases hl : lenD x with
    | none =>
      rw [hl] at eb
      cases eb
    | some n =>
      rw [hl] at eb
      cases eb
      unfold lenD at hl
      split at hl
      · cases hl
        obtain ⟨p, ws, rfl, h1, r1⟩ := px.list wd.sub
        refine call_len pins s σ H _ us Q I r ⟨_, ws.length, rfl, .inl ⟨ws, .inl (.inl h1), rfl⟩, ?_⟩
        rw [r1.length]
        exact q.flat wd (.int _)
      · cases hl
        obtain ⟨p, ws, rfl, h1, r1⟩ := px.tup
        refine call_len pins s σ H _ us Q I r ⟨_, ws.length, rfl, .inr ⟨ws, wd.sub.seqT h1, rfl⟩, ?_⟩
        rw [r1.length]
        exact q.flat wd (.int _)
      · cases px.str
        split at hl
        · rename_i hz
          cases hl
          exact call_len pins s σ H _ us Q I r ⟨_, _, rfl, ⟨szl hz, rfl⟩, q.flat wd (.int _)⟩
        · cases hl
      · cases hl
  | sum =>
    simp only [bltD] at eb
    split at eb
    · rename_i xs
      cases hi : intsD xs with
      | none =>
        rw [hi] at eb
        cases eb
      | some ns =>
        rw [hi] at eb
        cases eb
        obtain ⟨p, ws, rfl, h1, r1⟩ := px.list wd.sub
        cases r1.ints hi
        exact cr_sum hc pins s σ H _ us Q I r ⟨p, ns, rfl, .inl (.inl h1), q.flat wd (.int _)⟩
    · cases eb
  | mn =>
    simp only [bltD] at eb
    split at eb
    · rename_i y ys
      obtain ⟨p, ws, rfl, h1, r1⟩ := px.list wd.sub
      obtain ⟨u, rfl, ru⟩ := vals1 r
      cases ru
      obtain ⟨z, its, n, rv, hl⟩ := I.hok p _ h1
      refine call_min_data hd ⟨_, hl, rfl, n, rfl⟩ (tell_ok hu I wd) ⟨?_, fun i v hi => ?_⟩ eb fun u h' tk tu kept => ?_
      · rw [List.size_toArray, ← rv.length, r1.length]
      · have hi : its[i]? = some v := by simpa using hi
        have hlt : i < its.length := by
          rcases Nat.lt_or_ge i its.length with q | q
          · exact q
          · rw [List.getElem?_eq_none q] at hi
            cases hi
        have hlt2 : i < (y :: ys).length := by
          rw [← r1.length, rv.length]
          exact hlt
        obtain ⟨w1, g1, g2⟩ := r1.get (List.getElem?_eq_getElem hlt2)
        obtain ⟨u1, g3, g4⟩ := rv.get g1
        rw [hi] at g3
        cases g3
        exact ⟨_, List.getElem?_eq_getElem hlt2, w1, g4, g2⟩
      · obtain ⟨v1, g1, g2⟩ := tu
        exact ⟨v1, H, I.kept kept, g1, q.flat wd g2⟩
    · cases eb
  | mx =>
    simp only [bltD] at eb
    split at eb
    · rename_i xs
      split at eb
      · rename_i n ns hi
        cases eb
        obtain ⟨p, ws, rfl, h1, r1⟩ := px.list wd.sub
        cases r1.ints hi
        refine cr_max hc pins s σ H _ us Q I r ⟨p, n :: ns, rfl, .inl (.inl h1), Nat.succ_pos _, fun m hm hle => ?_⟩
        obtain ⟨g1, g2⟩ := maxI_spec n ns
        have e : m = maxI n ns := Int.le_antisymm (g2 m hm) (hle _ g1)
        rw [e]
        exact q.flat wd (.int _)
      · cases eb
    · cases eb
  | any =>
    simp only [bltD] at eb
    split at eb
    · rename_i xs
      cases hi : boolsD xs with
      | none =>
        rw [hi] at eb
        cases eb
      | some ns =>
        rw [hi] at eb
        cases eb
        obtain ⟨p, ws, rfl, h1, r1⟩ := px.list wd.sub
        cases r1.bools hi
        exact cr_any hc pins s σ H _ us Q I r ⟨p, ns, rfl, .inl (.inl h1), q.flat wd (.bl _)⟩
    · cases eb
  | all =>
    simp only [bltD] at eb
    split at eb
    · rename_i xs
      cases hi : boolsD xs with
      | none =>
        rw [hi] at eb
        cases eb
      | some ns =>
        rw [hi] at eb
        cases eb
        obtain ⟨p, ws, rfl, h1, r1⟩ := px.list wd.sub
        cases r1.bools hi
        exact cr_all hc pins s σ H _ us Q I r ⟨p, ns, rfl, .inl (.inl h1), q.flat wd (.bl _)⟩
    · cases eb
  | sorted =>
    simp only [bltD] at eb
    split at eb
    · rename_i xs
      cases hi : sortD xs with
      | none =>
        rw [hi] at eb
        cases eb
      | some ys =>
        rw [hi] at eb
        cases eb
        obtain ⟨p, ws, rfl, h1, r1⟩ := px.list wd.sub
        exact sorted_ok hu pins s σ H _ us Q I r ⟨W, S, p, ws, xs, ys, wd, rfl, h1, r1, hi, fun p2 zs hn rz => q.newL wd rz hn⟩
    · cases eb
  | list =>
    simp only [bltD] at eb
    split at eb
    · cases eb
      obtain ⟨p, ws, rfl, h1, r1⟩ := px.list wd.sub
      exact call_list_of pins s σ H _ us Q I r ⟨p, ws, rfl, .inl (.inl (.inl h1)), fun l hl => q.newL wd r1 hl⟩
    · cases eb
      obtain ⟨p, ws, rfl, h1, r1⟩ := px.tup
      exact call_list_of pins s σ H _ us Q I r ⟨p, ws, rfl, .inr (wd.sub.seqT h1), fun l hl => q.newL wd r1 hl⟩
    · cases eb
  | tuple =>
    simp only [bltD] at eb
    split at eb
    · cases eb
      obtain ⟨p, ws, rfl, h1, r1⟩ := px.list wd.sub
      exact call_tuple_of pins s σ H _ us Q I r ⟨p, ws, rfl, .inl ⟨.inl (.inl h1), fun l hl => q.newT wd r1 hl⟩⟩
    · cases eb
      obtain ⟨p, ws, rfl, h1, r1⟩ := px.tup
      exact call_tuple_of pins s σ H _ us Q I r ⟨p, ws, rfl, .inr ⟨wd.sub.seqT h1, q.flat wd (.tup h1 r1)⟩⟩
    · cases eb
  | int =>
    simp only [bltD] at eb
    split at eb
    · cases eb
      cases px.int
      exact call_int1 pins s σ H _ us Q I r (.inl ⟨_, rfl, q.flat wd (.int _)⟩)
    · cases eb
  | abs =>
    simp only [bltD] at eb
    split at eb
    · cases eb
      cases px.int
      exact call_abs pins s σ H _ us Q I r ⟨_, rfl, q.flat wd (.int _)⟩
    · cases eb
theorem bl_ok (b : Bl) (hc : X.calm = true) (hu : X.A.units + 65 < cLine) : CallR X (blV b) (rL X.K (bltF b)) := by
  intro pins s σ H vs us Q I r ⟨W, S, as, c, wd, ra, e, q⟩
  have hd := I.ok.hd hc
  unfold bltF at e
  split at e
  · rename_i a
    obtain ⟨v, rfl, ra1⟩ : ∃ v, vs = [v] ∧ Ra X.K W v a := by
      cases ra with
      | cons r1 t =>
        cases t
        exact ⟨_, rfl, r1⟩
    split at e
    · rename_i ns
      split at e
      · cases e
        obtain ⟨p, rfl, hq⟩ := ra1
        refine call_list_of pins s σ H _ us Q I r ⟨p, _, rfl, .inl (wd.sub.seqL hq), fun l hl => q.newL wd ?_ hl⟩
        clear hq q r ra
        induction ns with
        | nil => exact .nil
        | cons n ns ih => exact .cons (.int n) ih
      · cases e
    · cases hda : deref S a with
      | none =>
        rw [hda] at e
        cases e
      | some x =>
        cases eb : bltD b x with
        | none =>
          simp only [hda, Option.bind_some, eb, Option.map_none] at e
          cases e
        | some d =>
          simp only [hda, Option.bind_some, eb, Option.map_some] at e
          cases e
          exact bl1_ok b hc hu I r wd (wd.deref ra1 hda) eb q
  · rename_i x y
    cases eb : bltD2 b x y with
    | none =>
      rw [eb] at e
      cases e
    | some d =>
      rw [eb] at e
      cases e
      obtain ⟨v, w', rfl, px, py⟩ : ∃ v w', vs = [v, w'] ∧ Rp X.K W.F v x ∧ Rp X.K W.F w' y := by
        cases ra with
        | cons r1 t =>
          cases t with
          | cons r2 t =>
            cases t
            exact ⟨_, _, rfl, r1, r2⟩
      unfold bltD2 at eb
      split at eb
      · obtain ⟨u1, u2, rfl, ru1, ru2⟩ := vals2 r
        refine call_min_pair hd (tell_ok hu I wd) ⟨v, ru1, px⟩ ⟨w', ru2, py⟩ eb fun u h' tk tu kept => ?_
        obtain ⟨v1, g1, g2⟩ := tu
        exact ⟨v1, H, I.kept kept, g1, q.flat wd g2⟩
      · split at eb
        · cases eb
          cases px
          cases py
          exact call_max2 hc pins s σ H _ us Q I r ⟨_, _, rfl, q.flat wd (.int _)⟩
        · cases eb
      · cases eb
  · cases e
end
end PV

/-! PV8: what is walked: a list, a tuple or a text; enumerate of a list or a tuple. -/
namespace PV
open PySem PySem.Spec PyProof.Rows L2
section
variable {X : Cx} {tg : Expr} {pins : List (Addr × Obj)} {σ : L2.St} {H : Hp} {s : Shared} {R : It → Hp → Prop} {E : Value → Shared → Prop}
theorem it_list {a : Addr} {xs : List V} (I : Inv X pins σ H s) (h : SqL X.K H a xs) (q : R (Itl X.K a) H) : wpAny (model X.prog X.w) X.A (pyIter (.ref a)) (PIE X pins σ tg R) E s := by
  obtain ⟨its, rv, p, hz⟩ := I.list h
  exact wpAny_pyIter_list p.isList (pi_one (tk := s.toks) I _ (turn_list a _) ⟨_, Heap.get?_push_size _ rfl, rfl, rfl⟩ q)
theorem it_tup {a : Addr} {xs : List V} (I : Inv X pins σ H s) (h : SqT X.K H a xs) (q : R (Itt X.K a) H) : wpAny (model X.prog X.w) X.A (pyIter (.ref a)) (PIE X pins σ tg R) E s := by
  obtain ⟨its, rv, p, hz⟩ := I.tuple h
  exact wpAny_pyIter_tuple (show s.heap.IsTuple a its.toArray from p) (pi_one (tk := s.toks) I _ (turn_tuple a _) ⟨_, Heap.get?_push_size _ rfl, rfl, rfl⟩ q)
theorem it_str {x : Str} {t : Tok} (I : Inv X pins σ H s) (q : R (Its x) H) : wpAny (model X.prog X.w) X.A (pyIter (.str x t)) (PIE X pins σ tg R) E s := by
  cases ha : x.cps.all (· < 128)
  · exact wpAny_pyIter_wide ha (pi_one (tk := s.toks) I _ (turn_str _ x t "str_iterator" (.inr rfl)) ⟨_, Heap.get?_push_size _ rfl, rfl, rfl⟩ q)
  · exact wpAny_pyIter_ascii ha (pi_one (tk := s.toks) I _ (turn_str _ x t "str_ascii_iterator" (.inl rfl)) ⟨_, Heap.get?_push_size _ rfl, rfl, rfl⟩ q)
def iSeq (K : PySem.W.Frag) (te : TE) : TI := fun σ H R => te σ H fun v H1 => (∃ a xs, v = .ref a ∧ SqL K H1 a xs ∧ (xs.length ≤ sizeLine → R (Itl K a) H1)) ∨ (∃ a xs, v = .ref a ∧ SqT K H1 a xs ∧ (xs.length ≤ sizeLine → R (Itt K a) H1)) ∨ ∃ x, v = .str x ∧ R (Its x) H1
theorem pi_seq {e : Expr} {te : TE} (he : PE X e te) : PI X tg e (iSeq X.K te) := by
  refine ⟨fun pins s σ H R I h => ?_⟩
  refine thn (he.run pins s σ H _ I h) fun v s1 ⟨x, H1, I1, r1, q1⟩ => ?_
  rcases q1 with ⟨a, xs, rfl, h1, q⟩ | ⟨a, xs, rfl, h1, q⟩ | ⟨z, rfl, q⟩
  · cases r1
    obtain ⟨_, _, _, hz⟩ := I1.list h1
    exact it_list I1 h1 (q hz)
  · cases r1
    obtain ⟨_, _, _, hz⟩ := I1.tuple h1
    exact it_tup I1 h1 (q hz)
  · obtain ⟨t, rfl⟩ := r1
    exact it_str I1 q
end

/-! ### enumerate of a tuple -/
theorem enum_newT (l : Addr) (items : Array Value) (n : Nat) (dct : Option Addr) (sl : Array (Option Value)) :
    Meets (Builtin.«enumerate.__new__» ⟨[.type "enumerate", .ref l], []⟩) (fun _ R s => s.heap.get? l = some { cls := .type "tuple", dict := dct, data := .seq items n, slots := sl } ∧
      R (.ok (.ret (.ref (s.heap.push { cls := .type "tuple_iterator", data := .fields #[.ref l, .int 0 0] }).objs.size)))
        { s with heap := (s.heap.push { cls := .type "tuple_iterator", data := .fields #[.ref l, .int 0 0] }).push { cls := .type "enumerate", data := .fields #[.none, .bool false, .ref s.heap.objs.size, rawInt 0, .none, .none] } }) :=
  .of_wp fun prog w A R s h => by
    obtain ⟨hp, g, d, tk, os⟩ := s
    obtain ⟨hl, h⟩ := h
    have hsub := sub_enumerate
    have hT : Heap.IsTuple (Shared.heap ⟨hp, g, d, tk, os⟩) l items := ⟨_, hl, rfl, n, rfl⟩
    wp_walk using AutoSeq1.wpAny_loadPart' hl
    refine wpAny_stack_any fun st => wpAny_pure ?_
    split
    · rename_i c _ _ _ _ _
      cases (c == Value.type "enumerate") <;> (wp_walk using AutoSeq1.wpAny_loadPart' hl, wpAny_pyIter_tuple hT; exact ⟨_, rfl, h⟩)
    · wp_walk using AutoSeq1.wpAny_loadPart' hl, wpAny_pyIter_tuple hT
      exact ⟨_, rfl, h⟩
section
variable {prog : Program} {w : World} {A : Around} {E : Value → Shared → Prop} {s : Shared}
theorem call_enumT {l : Addr} {items : Array Value} {Q : Value → Shared → Prop} (hT : s.heap.IsTuple l items)
    (h : ∀ h', IsEnum h' (s.heap.objs.size + 1) s.heap.objs.size 0 .none → h'.IsTupleIter s.heap.objs.size l 0 → (∀ b o, s.heap.get? b = some o → h'.get? b = some o) → Q (.ref (s.heap.objs.size + 1)) { s with heap := h' }) :
    wpAny (model prog w) A (call (.type "enumerate") [.ref l]) Q E s := by
  obtain ⟨⟨c, dct, dt, sl⟩, hl, hc, n, hd⟩ := hT
  obtain rfl : c = .type "tuple" := hc
  obtain rfl : dt = .seq items n := hd
  refine callType_new F.called_enumerate (by decide) (F.typeCall_enumerate_1 _) (F.newCall_enumerate_1 _) (fun obj => F.args_object_init_2 obj _) F.entry_enumerate_new (enum_newT l items n dct sl) ⟨hl, ?_⟩
  generalize hg : s.heap.push { cls := .type "tuple_iterator", data := .fields #[.ref l, .int 0 0] } = g
  have hz : g.objs.size = s.heap.objs.size + 1 := by
    rw [← hg]
    exact Heap.size_push ..
  have up : ∀ b o, s.heap.get? b = some o → g.get? b = some o := fun b o e => by
    rw [← hg]
    exact Heap.get?_push_of_some _ e
  have hi : g.get? s.heap.objs.size = some { cls := .type "tuple_iterator", data := .fields #[.ref l, .int 0 0] } := by
    rw [← hg]
    exact Heap.get?_push_size _ rfl
  rw [hz]
  have he : IsEnum (g.push { cls := .type "enumerate", data := .fields #[.none, .bool false, .ref s.heap.objs.size, rawInt 0, .none, .none] }) (s.heap.objs.size + 1) s.heap.objs.size 0 .none := by
    have := Heap.get?_push_size g (o := { cls := .type "enumerate", data := .fields #[.none, .bool false, .ref s.heap.objs.size, rawInt 0, .none, .none] }) rfl
    rw [hz] at this
    exact this
  exact ⟨⟨_, he, rfl⟩, h _ he ⟨_, Heap.get?_push_of_some _ hi, rfl, rfl⟩ fun b o x => Heap.get?_push_of_some _ (up b o x)⟩
end
/-- the tuple at a as it stands at each turn, each item in a new pair -/
def IteT (K : PySem.W.Frag) (a : Addr) : It :=
  ⟨fun i H => ∃ (xs : List V) (x : V), SqT K H a xs ∧ xs[i]? = some x, fun i H v H' => ∃ T x, v = .ref T ∧ H T = none ∧ H' = upd H T (.tup [.int (i : Nat), x]) ∧ ∀ xs, SqT K H a xs → xs[i]? = some x, fun i H => ∃ xs : List V, SqT K H a xs ∧ xs.length = i⟩
theorem turn_enumT {P : Program} {w : World} {K : PySem.W.Frag} {elts : List Expr} {kk : Nat} {tpos : Pos} (a e it : Addr) :
    Turn P w K (.Tuple elts kk tpos) (IteT K a) [e, it] e (fun i h => (∃ old, IsEnum h e it ((i : Nat) : Int) old) ∧ h.IsTupleIter it a i ∧ e ≠ it ∧ a ≠ it ∧ a ≠ e) where
  mem := by simp
  obj := fun i h st b hb => by
    obtain ⟨⟨old, he⟩, ⟨o, ho, hc, hd⟩, _⟩ := st
    rcases (show b = e ∨ b = it by simpa using hb) with z | z
    · rw [z]
      exact ⟨_, he, fun v q => nomatch q⟩
    · rw [z]
      exact ⟨o, ho, fun v q => by rw [hd] at q; cases q⟩
  keep := fun i h h' st k => by
    obtain ⟨⟨old, he⟩, hi, hne⟩ := st
    exact ⟨⟨old, k e (by simp) _ he⟩, hi.at fun o q => k it (by simp) o q, hne⟩
  item := by
    intro X hP hw hK hc i pins s σ H E I hf st hg
    subst hP hw hK
    obtain ⟨⟨old, he⟩, hit, n1, n2, n3⟩ := st
    obtain ⟨xs, x, hq, hx⟩ := hg
    obtain ⟨its, rv, p, hz⟩ := I.tuple hq
    obtain ⟨u, hu, ru⟩ := rv.get hx
    have hlt : i < its.toArray.size := by
      rcases Nat.lt_or_ge i its.toArray.size with z | z
      · exact z
      · rw [List.getElem?_eq_none (by simpa using z)] at hu
        cases hu
    have D := Draws.tuple (prog := X.prog) (w := X.w) (A := X.A.in1) (I.ok.hd hc) it a n2 its.toArray
    have W := GoesN.enumFrom (elts := elts) (x1 := kk) (pos := tpos) 0 D e n1 (by simp; exact ⟨n1, Ne.symm n3⟩) (by simp)
    refine W.goes i s _ _ hlt ⟨⟨old, by rw [Int.zero_add]; exact he⟩, hit, p⟩ fun v h' tk hy st' kept htk => ?_
    obtain ⟨T, t, y, rfl, hT, hy, tt⟩ := hy
    have ey : y = u := by
      have : its[i]? = some y := by simpa using hy
      rw [hu] at this
      exact (Option.some.inj this).symm
    subst ey
    rw [Int.zero_add] at tt
    have new : ObjOk X.prog X.w (upd H T (.tup [.int (i : Nat), x])) h' T (.tup [.int (i : Nat), x]) := ⟨by show 2 ≤ sizeLine; decide, [.int i t, y], .cons ⟨_, rfl⟩ (.cons ru .nil), tt⟩
    have I1 : Inv X pins σ (upd H T (.tup [.int (i : Nat), x])) { s with heap := h', toks := tk } := I.turnedNew (ch := [e, it]) (fun b ob hb q => kept b ob hb q) hf hT new
    obtain ⟨⟨old', he'⟩, hit', _⟩ := st'
    refine ⟨.ref T, _, I1, rfl, ⟨T, x, rfl, I.hok.fresh hT, rfl, fun ys hy => by rw [I.tuple_inj hy hq]; exact hx⟩, ⟨⟨old', ?_⟩, hit', n1, n2, n3⟩, fun b hb => ?_⟩
    · rw [Int.zero_add] at he'
      exact he'
    · have hb' : b < s.heap.objs.size := by
        rcases (show b = e ∨ b = it by simpa using hb) with z | z
        · rw [z]
          exact Heap.lt_size he
        · rw [z]
          obtain ⟨_, q, _⟩ := hit
          exact Heap.lt_size q
      rw [upd_ne (Nat.ne_of_lt (Nat.lt_of_lt_of_le hb' hT))]
      exact (hf b hb).1
  done := by
    intro X hP hw hK hc i pins s σ H E I hf st hg
    subst hP hw hK
    obtain ⟨⟨old, he⟩, hit, n1, n2, n3⟩ := st
    obtain ⟨xs, hq, hx⟩ := hg
    obtain ⟨its, rv, p, hz⟩ := I.tuple hq
    have D := Draws.tuple (prog := X.prog) (w := X.w) (A := X.A.in1) (I.ok.hd hc) it a n2 its.toArray
    have W := GoesN.enumFrom (elts := elts) (x1 := kk) (pos := tpos) 0 D e n1 (by simp; exact ⟨n1, Ne.symm n3⟩) (by simp)
    have hn : its.toArray.size = i := by
      rw [List.size_toArray, ← rv.length]
      exact hx
    refine W.stops s _ _ ⟨⟨old, by rw [Int.zero_add, hn]; exact he⟩, by rw [hn]; exact hit, p⟩ fun h' tk kept htk => ?_
    exact I.turnedL (ch := [e, it]) (fun b ob hb q => kept b ob hb q) hf
  self := fun A i s Q E st h => by
    obtain ⟨⟨_, he⟩, _⟩ := st
    exact wpAny_pyIter_enum he h
def iEnumA (K : PySem.W.Frag) (ta : TA) : TI := fun σ H R => ta σ H fun vs H1 => ∃ a xs, vs = [.ref a] ∧ ((SqL K H1 a xs ∧ (xs.length ≤ sizeLine → R (Ite K a) H1)) ∨ (SqT K H1 a xs ∧ (xs.length ≤ sizeLine → R (IteT K a) H1)))
theorem pi_enumA {X : Cx} {e : Expr} {ta : TA} {p pos tpos : Pos} {elts : List Expr} {kk : Nat} (hg : Gl X "enumerate") (hm : X.mg "enumerate" = none) (ha : PA X [e] ta) (hs : starEach [e] X.env = [(false, eval e X.env)]) :
    PI X (.Tuple elts kk tpos) (.Call (.Name "enumerate" p) [e] [] pos) (iEnumA X.K ta) := by
  refine ⟨fun pins s σ H R I h => ?_⟩
  refine Call_ (ld_blt I hg hm boot_enumerate (PyProof.Rows.callWith_type1 (thn (ha.run pos pins s σ H _ I h) fun us s1 ⟨vs, H1, I1, r1, q1⟩ => ?_) hs rfl))
  obtain ⟨a, xs, ex, q⟩ := q1
  subst ex
  obtain ⟨u, rfl, ru⟩ := vals1 r1
  cases ru
  have fin : ∀ {J : It} {h' : Heap} {tn : Nat → Heap → Prop}, (∀ b o, s1.heap.get? b = some o → h'.get? b = some o) → Turn X.prog X.w X.K (.Tuple elts kk tpos) J [s1.heap.objs.size + 1, s1.heap.objs.size] (s1.heap.objs.size + 1) tn → tn 0 h' → R J H1 → PIE X pins σ (.Tuple elts kk tpos) R (.ref (s1.heap.objs.size + 1)) { s1 with heap := h' } := fun {J h' tn} hk T st q => by
    have I2 : Inv X pins σ H1 { s1 with heap := h' } := I1.kept (t' := s1.toks) hk
    refine ⟨s1.heap.objs.size + 1, [s1.heap.objs.size + 1, s1.heap.objs.size], tn, J, H1, rfl, I2, T, st, fun b hb => ?_, q⟩
    have hle : s1.heap.objs.size ≤ b := by
      rcases (show b = s1.heap.objs.size + 1 ∨ b = s1.heap.objs.size by simpa using hb) with z | z
      · rw [z]
        exact Nat.le_add_right _ _
      · rw [z]
        exact Nat.le_refl _
    exact I1.fpOk hle (I1.hok.fresh hle)
  rcases q with ⟨hq, q⟩ | ⟨hq, q⟩
  · obtain ⟨its, rv, p', hz⟩ := I1.list hq
    exact call_enumerate_list p'.isList fun h' he hit hsz hk => wpAny_pyIter_enum he (fin hk (turn_enum a _ _) ⟨⟨.none, he⟩, hit, Nat.succ_ne_self _⟩ (q hz))
  · obtain ⟨its, rv, p', hz⟩ := I1.tuple hq
    have la : a < s1.heap.objs.size := p'.lt
    exact call_enumT p' fun h' he hit hk => wpAny_pyIter_enum he (fin hk (turn_enumT a _ _) ⟨⟨.none, he⟩, hit, Nat.succ_ne_self _, Nat.ne_of_lt la, Nat.ne_of_lt (Nat.lt_succ_of_lt la)⟩ (q hz))
end PV

/-! PV9: a term held against the text. -/
namespace PV
open PySem PySem.Spec PyProof.Rows L2

/-- the names: defs with the number of their parameters, constants -/
structure Nm where
  fn : List (Str × Nat)
  gl : List Str
def isVis (sc : Scope) (x : Str) : Bool := match sc.names.lookup x with
  | some .local => true
  | some .cell => true
  | some .free => true
  | _ => false
def isGl (sc : Scope) (x : Str) : Bool := match sc.names.lookup x with
  | some .globalImplicit => true
  | _ => false
def isLoc (sc : Scope) (ow : Str → Bool) (x : Str) : Bool := match sc.names.lookup x with
  | some .local => true
  | some .cell => ow x
  | _ => false
def plainNm (x : Str) : Bool := decide (x ≠ "__name__") && !(x == ("__debug__" : Str)) && !(x == ("__classdict__" : Str))
def Bl.nm : Bl → Str
  | .len => "len"
  | .sum => "sum"
  | .mn => "min"
  | .mx => "max"
  | .any => "any"
  | .all => "all"
  | .sorted => "sorted"
  | .list => "list"
  | .tuple => "tuple"
  | .int => "int"
  | .abs => "abs"
def notSt : Expr → Bool
  | .Starred _ _ => false
  | _ => true
def notSl : Expr → Bool
  | .Slice _ _ _ _ => false
  | _ => true
def notSet : Expr → Bool
  | .Set _ _ _ => false
  | _ => true
def notCall : Expr → Bool
  | .Call _ _ _ _ => false
  | _ => true
def cstOk (c : PyData) : Const → Bool
  | .none => match c with | .none => true | _ => false
  | .bool b => match c with | .bool b' => b == b' | _ => false
  | .int i => match c with | .int i' => decide (i = i') | _ => false
  | .str x => match c with | .str x' => decide (x = x') | _ => false
  | _ => false
def tyNm (sc : Scope) (t : Ty) : Expr → Bool
  | .Name x _ => decide (x = Str.ofString t.nm) && isGl sc x
  | _ => false
def tyNms (sc : Scope) : List Ty → List Expr → Bool
  | [], [] => true
  | t :: ts, e :: es => tyNm sc t e && tyNms sc ts es
  | _, _ => false
/-- a comprehension's scope as it runs -/
def inSc (scope sc : Scope) : Scope := relS scope sc
def ownOf (N : List Str) (l : List Nat) : List (Str × Nat) := l.map fun i => (N.getD i "", i)
section
variable (nm : Nm) (N : List Str)
mutual
def agE (sc : Scope) (ow : Str → Bool) : Ex → Expr → Bool
  | .var i, e => match e with
    | .Name x _ => decide (N[i]? = some x) && isVis sc x && plainNm x
    | _ => false
  | .cst c, e => match e with
    | .Constant k _ _ => cstOk c k
    | _ => false
  | .glb i, e => match e with
    | .Name x _ => decide (nm.gl[i]? = some x) && isGl sc x && plainNm x
    | _ => false
  | .tup es, e => match e with
    | .Tuple xs _ _ => decide (xs.length ≤ 1000) && agEs sc ow es xs
    | _ => false
  | .lst es, e => match e with
    | .List xs _ => decide (xs.length ≤ 1000) && agEs sc ow es xs
    | _ => false
  | .fresh a, e => (match a with
    | .lst _ => true
    | .comp _ _ _ _ => true
    | .lrg _ => true
    | .blt .list _ => true
    | .blt .sorted _ => true
    | _ => false) && agE sc ow a e
  | .bin o a b, e => match e with
    | .BinOp x o' y _ => decide (o = o') && agE sc ow a x && agE sc ow b y
    | _ => false
  | .neg a, e => match e with
    | .UnaryOp .USub x _ => agE sc ow a x
    | _ => false
  | .cmp o a b, e => match e with
    | .Compare x [o'] [y] _ => decide (o = o') && !(behindInMarks o y) && agE sc ow a x && agE sc ow b y
    | _ => false
  | .chn o p a b c, e => match e with
    | .Compare x [o', p'] [y, z] _ => decide (o = o') && decide (p = p') && !(behindInMarks p z) && agE sc ow a x && agE sc ow b y && agE sc ow c z
    | _ => false
  | .and es, e => match e with
    | .BoolOp .And xs _ => agEs sc ow es xs
    | _ => false
  | .or es, e => match e with
    | .BoolOp .Or xs _ => agEs sc ow es xs
    | _ => false
  | .not a, e => match e with
    | .UnaryOp .Not x _ => agE sc ow a x
    | _ => false
  | .ite t a b, e => match e with
    | .IfExp z x y _ => agE sc ow t z && agE sc ow a x && agE sc ow b y
    | _ => false
  | .ix a i, e => match e with
    | .Subscript x y _ => notSl y && agE sc ow a x && agE sc ow i y
    | _ => false
  | .slc a lo hi, e => match e with
    | .Subscript x (.Slice l h none _) _ => agE sc ow a x && agO sc ow lo l && agO sc ow hi h
    | _ => false
  | .call f es, e => match e with
    | .Call (.Name x _) xs [] _ => decide (nm.fn[f]? = some (x, xs.length)) && isGl sc x && plainNm x && agEs sc ow es xs
    | _ => false
  | .blt b es, e => match e with
    | .Call (.Name x _) (y :: ys) [] _ => decide (x = b.nm) && isGl sc x && agEs sc ow es (y :: ys)
    | _ => false
  | .isi a ts, e => match e with
    | .Call (.Name x _) [y, z] [] _ => decide (x = "isinstance") && isGl sc x && notSt y && agE sc ow a y && (match z with
      | .Tuple zs _ _ => decide (ts.length ≤ 1000) && tyNms sc ts zs
      | z => match ts with
        | [t] => tyNm sc t z
        | _ => false)
    | _ => false
  | .comp t it ifs a, e => match e with
    | .ListComp x [⟨tg, iter, cs, k⟩] scope _ => decide (k = 0) && blkC N sc scope (ownOf N t.slots) && agI sc ow it tg iter && agT (inSc scope sc) (fun x => scope.names.lookup x == some .cell) false t tg &&
        decide (cs.length ≤ 1) && agEs (inSc scope sc) (fun x => scope.names.lookup x == some .cell) ifs cs && agE (inSc scope sc) (fun x => scope.names.lookup x == some .cell) a x
    | _ => false
  | .lrg a, e => match e with
    | .Call (.Name x _) [.Call (.Name y _) [z] [] _] [] _ => decide (x = "list") && decide (y = "range") && isGl sc x && isGl sc y && notSt z && agE sc ow a z
    | _ => false
def agEs (sc : Scope) (ow : Str → Bool) : Exs → List Expr → Bool
  | .nil, xs => match xs with
    | [] => true
    | _ => false
  | .cons e es, xs => match xs with
    | x :: xs => notSt x && agE sc ow e x && agEs sc ow es xs
    | [] => false
def agO (sc : Scope) (ow : Str → Bool) : Exs → Option Expr → Bool
  | .nil, x => match x with
    | none => true
    | _ => false
  | .cons e es, x => match es with
    | .nil => match x with
      | some x => agE sc ow e x
      | none => false
    | _ => false
def agI (sc : Scope) (ow : Str → Bool) : Itx → Expr → Expr → Bool
  | .seq a, _, e => notSet e && agE sc ow a e
  | .rng a, _, e => match e with
    | .Call (.Name x _) [y] [] _ => decide (x = "range") && isGl sc x && notSt y && agE sc ow a y
    | _ => false
  | .rng2 a b, _, e => match e with
    | .Call (.Name x _) [y, z] [] _ => decide (x = "range") && isGl sc x && notSt y && notSt z && agE sc ow a y && agE sc ow b z
    | _ => false
  | .enm a, tg, e => (match tg with | .Tuple _ _ _ => true | _ => false) && (match e with
    | .Call (.Name x _) [y] [] _ => decide (x = "enumerate") && isGl sc x && notSt y && agE sc ow a y
    | _ => false)
  | .zip a b, tg, e => (match tg with | .Tuple _ _ _ => true | _ => false) && (match e with
    | .Call (.Name x _) [y, z] [] _ => decide (x = "zip") && isGl sc x && notSt y && notSt z && agE sc ow a y && agE sc ow b z
    | _ => false)
/-- targets; big: o[i] too -/
def agT (sc : Scope) (ow : Str → Bool) (big : Bool) : Tg → Expr → Bool
  | .nm i, e => match e with
    | .Name x _ => decide (N[i]? = some x) && isLoc sc ow x
    | _ => false
  | .tp ts, e => match e with
    | .Tuple xs _ _ => agTs sc ow big ts xs
    | _ => false
  | .sub o i, e => match e with
    | .Subscript x y _ => big && notSl y && agE sc ow o x && agE sc ow i y
    | _ => false
def agTs (sc : Scope) (ow : Str → Bool) (big : Bool) : Tgs → List Expr → Bool
  | .nil, xs => match xs with
    | [] => true
    | _ => false
  | .cons t ts, xs => match xs with
    | x :: xs => notSt x && agT sc ow big t x && agTs sc ow big ts xs
    | [] => false
end
/-- a statement that stores a comprehension in a plain name of the same row -/
def swB (sc : Scope) (x : Str) (px : Pos) : Expr → Bool
  | .ListComp _ _ s p => sc.names.lookup x == some .local && px.line == p.line && !(s.names.any fun (n, k) => n == x && (k == .local || k == .cell))
  | _ => false
/-- names stored from the right; none: not covered -/
def swO (sc : Scope) (ts vs : List Expr) : Option (Option (List Str)) :=
  if (!(ts.length == 2 || ts.length == 3) || vs.length != ts.length) = true then some none else
  if (vs.any fun | .Starred .. => true | _ => false) = true then some none else
  let line := (ts.head?.map (·.pos.line)).getD 0
  let names := ts.filterMap fun
    | .Name id pos => if sc.names.lookup id == some .local && pos.line == line then some id else none
    | _ => none
  if (names.length != ts.length || names.eraseDups.length != names.length) = true then some none else
  if vs.all (foldedForSure 8) = true then some none else
  if vs.all (constantsAlone 8) = true then none else some (some names)
def plainVal : Expr → Bool
  | .ListComp _ _ _ _ => false
  | .SetComp _ _ _ _ => false
  | .DictComp _ _ _ _ _ => false
  | _ => true
def isTupE : Expr → Bool
  | .Tuple _ _ _ => true
  | _ => false
def isLoc0 (sc : Scope) (x : Str) : Bool := sc.names.lookup x == some .local
/-- a, b = .. -/
def agP (sc : Scope) (ts : Tgs) (ys xs : List Expr) : Bool := match swO sc ys xs with
  | none => false
  | some none => decide (xs.length ≤ 1000)
  | some (some _) => match ys with
    | [.Name x _, .Name y _] => (match ts with
      | .cons (.nm i) (.cons (.nm j) .nil) => decide (i ≠ j) && isLoc0 sc x && isLoc0 sc y && decide (swO sc ys xs = some (some [x, y]))
      | _ => false)
    | [.Name x _, .Name y _, .Name z _] => (match ts with
      | .cons (.nm i) (.cons (.nm j) (.cons (.nm l) .nil)) => decide (i ≠ j) && decide (i ≠ l) && decide (j ≠ l) && isLoc0 sc x && isLoc0 sc y && isLoc0 sc z && decide (swO sc ys xs = some (some [x, y, z]))
      | _ => false)
    | _ => false
mutual
def agS (sc : Scope) (ow : Str → Bool) : Sx → Stmt → Bool
  | .asg t e, s => match s with
    | .Assign [.Name x p] v _ => (match v with | .ListComp _ _ _ _ => true | v => plainVal v) && agT nm N sc ow true t (.Name x p) && agE nm N sc ow e v
    | .Assign [.Subscript x y p] v _ => agT nm N sc ow true t (.Subscript x y p) && agE nm N sc ow e v
    | .Assign [.Tuple xs k p] v _ => !(isTupE v) && agT nm N sc ow true t (.Tuple xs k p) && agE nm N sc ow e v
    | _ => false
  | .par ts es, s => match s with
    | .Assign [.Tuple ys _ _] (.Tuple xs _ _) _ => agTs nm N sc ow true ts ys && agEs nm N sc ow es xs && decide (ys.length = xs.length) && agP sc ts ys xs
    | _ => false
  | .app o e, s => match s with
    | .Expr (.Call (.Attribute x f ap) [y] [] cp) _ => decide (f = "append") && notCall x && notSt y && (ap.endLine == cp.line) && agE nm N sc ow o x && agE nm N sc ow e y
    | _ => false
  | .ifs t a b, s => match s with
    | .If c x y _ => agE nm N sc ow t c && agSs sc ow a x && agSs sc ow b y
    | _ => false
  | .for_ t it b _, s => match s with
    | .For tg iter x [] _ => (match iter with | .Set _ _ _ => false | _ => true) && agI nm N sc ow it tg iter && agT nm N sc ow false t tg && agSs sc ow b x
    | _ => false
  | .whl _ t b _, s => match s with
    | .While c x [] _ => agE nm N sc ow t c && agSs sc ow b x
    | _ => false
  | .ret e, s => match s with
    | .Return (some x) _ => agE nm N sc ow e x
    | _ => false
  | .retO e, s => match s with
    | .Return (some x) _ => agE nm N sc ow e x
    | _ => false
  | .ret0, s => match s with
    | .Return none _ => true
    | _ => false
  | .exp e, s => match s with
    | .Expr x _ => plainVal x && agE nm N sc ow e x
    | _ => false
  | .brk, s => match s with
    | .Break _ => true
    | _ => false
  | .cnt, s => match s with
    | .Continue _ => true
    | _ => false
  | .pas, s => match s with
    | .Pass _ => true
    | _ => false
def agSs (sc : Scope) (ow : Str → Bool) : Ss → List Stmt → Bool
  | .nil, xs => match xs with
    | [] => true
    | _ => false
  | .cons s ss, xs => match xs with
    | x :: xs => agS sc ow s x && agSs sc ow ss xs
    | [] => false
end
end
end PV

/-! PV10: what the terms' readings are; small parts of the soundness. -/
namespace PV
open PySem PySem.Spec PyProof.Rows L2

theorem isVis_ok {sc : Scope} {x : Str} (h : isVis sc x = true) : Vis sc x := by
  unfold isVis at h
  split at h
  · exact .inl (by assumption)
  · exact .inr (.inl (by assumption))
  · exact .inr (.inr (by assumption))
  · cases h
theorem isGl_ok {X : Cx} {x : Str} (h : isGl X.env.scope x = true) : Gl X x := by
  unfold isGl at h
  split at h
  · show X.env.scope.names.lookup x = _
    assumption
  · cases h
theorem isLoc_ok {X : Cx} {ow : Str → Bool} {x : Str} (how : ∀ x, ow x = true → X.fn x = true) (h : isLoc X.env.scope ow x = true) : Loc X.env.scope x ∧ (X.fn x = true ∨ X.env.scope.names.lookup x = some .local) := by
  unfold isLoc at h
  split at h
  · rename_i e
    exact ⟨.inl e, .inr e⟩
  · rename_i e
    exact ⟨.inr e, .inl (how x h)⟩
  · cases h
theorem plainNm_ok {x : Str} (h : plainNm x = true) : x ≠ "__name__" ∧ (x == ("__debug__" : Str)) = false ∧ (x == ("__classdict__" : Str)) = false := by
  unfold plainNm at h
  simp only [Bool.and_eq_true, Bool.not_eq_true', decide_eq_true_eq] at h
  exact ⟨h.1.1, h.1.2, h.2⟩
theorem star_of {e : Expr} (h : notSt e = true) (es : List Expr) (env : Env) : starEach (e :: es) env = (false, eval e env) :: starEach es env := by
  cases e <;> first | rfl | cases h
theorem plainIx_of {b : Expr} (h : notSl b = true) : PlainIx b := by
  intro o i
  cases b <;> first | rfl | cases h
theorem folded_of {e : Expr} (h : notSet e = true) (env : Env) (x : Value) : foldedSetIterable e env x = pure x := by
  cases e <;> first | rfl | cases h
def allSt : List Expr → Bool
  | [] => true
  | x :: xs => notSt x && allSt xs
theorem back_of : ∀ {es : List Expr} (pos : Pos) (env : Env), allSt es = true → (backTo pos (starEach es env)).any (·.1) = false
  | [], _, _, _ => rfl
  | e :: es, pos, env, h => by
    simp only [allSt, Bool.and_eq_true] at h
    rw [star_of h.1]
    have ih := back_of (es := es) pos env h.2
    unfold backTo at ih ⊢
    rw [List.map_cons, List.any_cons, ih]
    rfl
section
variable {X : Cx}
theorem PE_imp {e : Expr} {t t' : TE} (h : PE X e t) (i : ∀ σ H Q, t' σ H Q → t σ H Q) : PE X e t' := ⟨fun pins s σ H Q I q => h.run pins s σ H Q I (i _ _ _ q)⟩
theorem PT_imp {e : Expr} {t t' : TT} (h : PT X e t) (i : ∀ σ H Q, t' σ H Q → t σ H Q) : PT X e t' := ⟨fun pins s σ H Q I q => h.run pins s σ H Q I (i _ _ _ q)⟩
theorem PW_imp {e : Expr} {t t' : TT} (h : PW X e t) (i : ∀ σ H Q, t' σ H Q → t σ H Q) : PW X e t' := ⟨fun wh pins s σ H Q I q => h.run wh pins s σ H Q I (i _ _ _ q)⟩
theorem PA_imp {e : List Expr} {t t' : TA} (h : PA X e t) (i : ∀ σ H Q, t' σ H Q → t σ H Q) : PA X e t' := ⟨fun pos pins s σ H Q I q => h.run pos pins s σ H Q I (i _ _ _ q)⟩
theorem PI_imp {tg e : Expr} {t t' : TI} (h : PI X tg e t) (i : ∀ σ H Q, t' σ H Q → t σ H Q) : PI X tg e t' := ⟨fun pins s σ H Q I q => h.run pins s σ H Q I (i _ _ _ q)⟩
theorem PG_imp {e : Expr} {t t' : TG} (h : PG X e t) (i : ∀ v σ H Q, t' v σ H Q → t v σ H Q) : PG X e t' := ⟨fun pins s σ H v u Q I r q => h.run pins s σ H v u Q I r (i _ _ _ _ q)⟩
theorem PGs_imp {e : List Expr} {t t' : TGs} (h : PGs X e t) (i : ∀ v σ H Q, t' v σ H Q → t v σ H Q) : PGs X e t' := ⟨fun pins s σ H v u Q I r q => h.run pins s σ H v u Q I r (i _ _ _ _ q)⟩
theorem PS_imp {e : Stmt} {t t' : TS} (h : PS X e t) (i : ∀ D σ H, t' D σ H → t D σ H) : PS X e t' := ⟨fun pins s σ H D I q => h.run pins s σ H D I (i _ _ _ q)⟩
theorem PSs_imp {e : List Stmt} {t t' : TS} (h : PSs X e t) (i : ∀ D σ H, t' D σ H → t D σ H) : PSs X e t' := ⟨fun pins s σ H D I q => h.run pins s σ H D I (i _ _ _ q)⟩
end

/-! ### readings -/
def KtA (K : PySem.W.Frag) (W : Wo) (S : Sto) (as : List A) (Q : List V → Hp → Prop) : Prop := ∀ W' vs H', Le W W' → Wd K W' H' S → RaA K W' vs as → Q vs H'
def KtB (K : PySem.W.Frag) (W : Wo) (S : Sto) (k : Bool) (Q : Bool → Hp → Prop) : Prop := ∀ W' H', Le W W' → Wd K W' H' S → Q k H'
/-- a new list, told of nowhere -/
def KtN (K : PySem.W.Frag) (W : Wo) (S : Sto) (ds : List PyData) (Q : VK) : Prop := ∀ W' p vs H', Le W W' → Wd K W' H' S → W'.F p = none → p ∉ W'.ρ → W'.G p = none → H' p = some (.lst vs) → RpA K W'.F vs ds → Q (.ref p) H'
def KtG (K : PySem.W.Frag) (W : Wo) (S : Sto) (env : En) (sl : List Nat) (σ : L2.St) (Q : L2.St → Hp → Prop) : Prop := ∀ W' σ' H', Le W W' → Wd K W' H' S → Re K W' σ' env → wipe σ' sl = wipe σ sl → Q σ' H'
/-- later, but for what is watched -/
structure Lx (W W' : Wo) : Prop where
  F : LeF W.F W'.F
  ρ : ∃ m, W'.ρ = W.ρ ++ m
theorem Le.x {W W' : Wo} (h : Le W W') : Lx W W' := ⟨h.F, h.ρ⟩
theorem Lx.trans {W1 W2 W3 : Wo} (a : Lx W1 W2) (b : Lx W2 W3) : Lx W1 W3 := by
  obtain ⟨m, e⟩ := a.ρ
  obtain ⟨m', e'⟩ := b.ρ
  exact ⟨fun x u q => b.F x u (a.F x u q), m ++ m', by rw [e', e, List.append_assoc]⟩
theorem Lx.g {W W' : Wo} (G G' : Hp) (h : Lx W W') : Lx ⟨W.F, W.ρ, G⟩ ⟨W'.F, W'.ρ, G'⟩ := ⟨h.F, h.ρ⟩
/-- what is walked gives these data -/
structure Wk (K : PySem.W.Frag) (W0 : Wo) (J : It) (xs : List PyData) : Prop where
  sz : xs.length ≤ 16777216
  go : ∀ (W : Wo) (H : Hp) (S : Sto) (i : Nat), Lx W0 W → Wd K W H S → i < xs.length → J.go i H
  stop : ∀ (W : Wo) (H : Hp) (S : Sto), Lx W0 W → Wd K W H S → J.stop xs.length H
  yld : ∀ (W : Wo) (H H' : Hp) (S : Sto) (i : Nat) (x : V), Lx W0 W → Wd K W H S → i < xs.length → J.yld i H x H' → ∃ W2 d, Le W W2 ∧ Wd K W2 H' S ∧ xs[i]? = some d ∧ Rp K W2.F x d
section
variable (K : PySem.W.Frag) (Φ : List Fs) (Γ : List PyData)
def rdE (e : Ex) : TE := fun σ H Q => ∃ W env S a S', Wd K W H S ∧ Re K W σ env ∧ ev Φ Γ e env S = some (a, S') ∧ Kt K W S' a Q
def rdAnd (es : Exs) : TE := fun σ H Q => ∃ W env S a S', Wd K W H S ∧ Re K W σ env ∧ evAnd Φ Γ es env S = some (a, S') ∧ Kt K W S' a Q
def rdOr (es : Exs) : TE := fun σ H Q => ∃ W env S a S', Wd K W H S ∧ Re K W σ env ∧ evOr Φ Γ es env S = some (a, S') ∧ Kt K W S' a Q
def rdN (e : Ex) : TE := fun σ H Q => ∃ W env S ds S', Wd K W H S ∧ Re K W σ env ∧ ev Φ Γ e env S = some (.d (.list ds), S') ∧ KtN K W S' ds Q
def rdT (e : Ex) : TT := fun σ H Q => ∃ W env S a S' k, Wd K W H S ∧ Re K W σ env ∧ ev Φ Γ e env S = some (a, S') ∧ tru S' a = some k ∧ KtB K W S' k Q
def rdTAnd (es : Exs) : TT := fun σ H Q => ∃ W env S a S' k, Wd K W H S ∧ Re K W σ env ∧ evAnd Φ Γ es env S = some (a, S') ∧ tru S' a = some k ∧ KtB K W S' k Q
def rdTOr (es : Exs) : TT := fun σ H Q => ∃ W env S a S' k, Wd K W H S ∧ Re K W σ env ∧ evOr Φ Γ es env S = some (a, S') ∧ tru S' a = some k ∧ KtB K W S' k Q
def rdTs (es : Exs) : TT := fun σ H Q => ∃ W env S k S', Wd K W H S ∧ Re K W σ env ∧ evTs Φ Γ es env S = some (k, S') ∧ KtB K W S' k Q
def rdA (es : Exs) : TA := fun σ H Q => ∃ W env S as S', Wd K W H S ∧ Re K W σ env ∧ evs Φ Γ es env S = some (as, S') ∧ KtA K W S' as Q
def rdO (es : Exs) : TO := fun σ H Q => ∃ W env S o S', Wd K W H S ∧ Re K W σ env ∧ evOpt Φ Γ es env S = some (o, S') ∧ ∀ W' H', Le W W' → Wd K W' H' S' → Q o H'
def rdI (it : Itx) : TI := fun σ H R => ∃ W env S xs S', Wd K W H S ∧ Re K W σ env ∧ evI Φ Γ it env S = some (xs, S') ∧ ∀ W' J H', Le W W' → Wd K W' H' S' → Wk K W' J xs → R J H'
def rdG (t : Tg) : TG := fun v σ H Q => ∃ W a env S env' S', Wd K W H S ∧ Re K W σ env ∧ Ra K W v a ∧ bnd Φ Γ t a env S = some (env', S') ∧ KtG K W S' env' t.slots σ Q
def rdGs (ts : Tgs) : TGs := fun vs σ H Q => ∃ W as env S env' S', Wd K W H S ∧ Re K W σ env ∧ RaA K W vs as ∧ bnds Φ Γ ts as env S = some (env', S') ∧ KtG K W S' env' ts.slots σ Q
end
/-- what a def of n parameters promises -/
def spF (K : PySem.W.Frag) (n : Nat) (m : Fs) : Sp := fun vs H Q _ => vs.length = n ∧ ∃ W S as r S', Wd K W H S ∧ RaA K W vs as ∧ m as S = some (r, S') ∧ Kt K W S' r Q
def bltNames : List Str := ["len", "sum", "min", "max", "any", "all", "sorted", "list", "tuple", "int", "abs", "isinstance", "range", "enumerate", "zip", "bool", "str"]
/-- where one stands -/
structure At (nm : Nm) (Φ : List Fs) (Γ : List PyData) (lv : Nat) (X : Cx) : Prop where
  calm : X.calm = true
  nd : X.N.Nodup
  room : Room lv X.A
  fns : ∀ (i : Nat) (x : Str) (n : Nat), nm.fn[i]? = some (x, n) → ∃ m fA fd ps, Φ[i]? = some m ∧ X.mg x = some (.ref fA) ∧ PySem.W.keepIn X.K (.ref fA) = true ∧ FnOk X.prog X.w X.K X.mg X.base CX0 lv fA fd ps (spF X.K n m) ∧ Binds X.K fd ps []
  blt : ∀ x ∈ bltNames, X.mg x = none
  gls : ∀ (i : Nat) (x : Str), nm.gl[i]? = some x → ∃ u v d, Γ[i]? = some d ∧ X.mg x = some u ∧ RelV v u ∧ ∀ F, Rp X.K F v d
section
variable {nm : Nm} {Φ : List Fs} {Γ : List PyData} {lv : Nat} {X : Cx}
theorem At.hu (h : At nm Φ Γ lv X) : X.A.units + 65 < cLine := by
  have := h.room.un
  omega
theorem At.blk (h : At nm Φ Γ lv X) (s : Shared) (H : Hp) (scope : Scope) (cenv : Env) (fp : List Addr) : At nm Φ Γ lv (X.blk s H scope cenv fp) := ⟨h.calm, h.nd, h.room, h.fns, h.blt, h.gls⟩
end

/-! ### slots forgotten -/
theorem wipe_get (σ : L2.St) : ∀ (l : List Nat) (i : Nat), (wipe σ l)[i]? = if i ∈ l then (σ[i]?).map (fun _ => none) else σ[i]?
  | [], i => by simp [wipe]
  | j :: l, i => by
    unfold wipe
    by_cases h : i = j
    · subst h
      by_cases hl : i < σ.length
      · rw [List.getElem?_set_self (by rw [wipe_length]; exact hl), List.getElem?_eq_getElem hl]
        simp
      · rw [List.getElem?_eq_none (by rw [List.length_set, wipe_length]; omega), List.getElem?_eq_none (by omega)]
        simp
    · rw [List.getElem?_set_ne (Ne.symm h), wipe_get σ l i]
      simp [h]
theorem wipe_app (σ : L2.St) (l m : List Nat) : wipe σ (l ++ m) = wipe (wipe σ l) m := by
  apply List.ext_getElem?
  intro i
  rw [wipe_get, wipe_get, wipe_get]
  by_cases h1 : i ∈ l <;> by_cases h2 : i ∈ m <;> simp [h1, h2, Function.comp_def]
theorem wipe_comm (σ : L2.St) (l m : List Nat) : wipe (wipe σ l) m = wipe (wipe σ m) l := by
  apply List.ext_getElem?
  intro i
  rw [wipe_get, wipe_get, wipe_get, wipe_get]
  by_cases h1 : i ∈ l <;> by_cases h2 : i ∈ m <;> simp [h1, h2, Function.comp_def]
theorem wipe_idem (σ : L2.St) (l : List Nat) : wipe (wipe σ l) l = wipe σ l := by
  apply List.ext_getElem?
  intro i
  rw [wipe_get, wipe_get]
  by_cases h1 : i ∈ l <;> simp [h1, Function.comp_def]
theorem wipe_set (σ : L2.St) (i : Nat) (v : Option V) : wipe (σ.set i v) [i] = wipe σ [i] := by
  show (σ.set i v).set i none = σ.set i none
  rw [List.set_set]
end PV

/-! PV11: the soundness of expressions. -/
namespace PV
open PySem PySem.Spec PyProof.Rows L2

/-! ### walks -/
section
variable {K : PySem.W.Frag} {W : Wo} {a b : Addr} {vs ws : List V} {ds es : List PyData}
theorem szu {n : Nat} (h : n ≤ sizeLine) : n ≤ 16777216 := by
  rw [sizeLine_eq] at h
  exact h
theorem wk_list (e : W.F a = some (.lst vs)) (r : RpA K W.F vs ds) (h : vs.length ≤ sizeLine) : Wk K W (Itl K a) ds := by
  have at_ : ∀ {W' H S}, Lx W W' → Wd K W' H S → SqL K H a vs := fun le wd => .inl (.inl (wd.sub.ex (le.F _ _ e) rfl))
  refine ⟨by rw [← r.length]; exact szu h, fun W' H S i le wd hi => ?_, fun W' H S le wd => ⟨vs, at_ le wd, by rw [r.length]; exact Nat.le_refl _⟩, fun W' H H' S i x le wd hi y => ?_⟩
  · have hv : i < vs.length := by rw [r.length]; exact hi
    exact ⟨vs, vs[i], at_ le wd, List.getElem?_eq_getElem hv⟩
  · obtain ⟨rfl, y⟩ := y
    obtain ⟨v, h1, h2⟩ := r.get (List.getElem?_eq_getElem hi)
    have := y vs (at_ le wd)
    rw [h1] at this
    cases this
    exact ⟨W', _, .refl _, wd, List.getElem?_eq_getElem hi, h2.le le.F⟩
theorem wk_tup (e : SqT K W.F a vs) (r : RpA K W.F vs ds) (h : vs.length ≤ sizeLine) : Wk K W (Itt K a) ds := by
  have at_ : ∀ {W' H S}, Lx W W' → Wd K W' H S → SqT K H a vs := fun le wd => wd.sub.seqT (le.F.seqT e)
  refine ⟨by rw [← r.length]; exact szu h, fun W' H S i le wd hi => ?_, fun W' H S le wd => ⟨vs, at_ le wd, by rw [r.length]; exact Nat.le_refl _⟩, fun W' H H' S i x le wd hi y => ?_⟩
  · have hv : i < vs.length := by rw [r.length]; exact hi
    exact ⟨vs, vs[i], at_ le wd, List.getElem?_eq_getElem hv⟩
  · obtain ⟨rfl, y⟩ := y
    obtain ⟨v, h1, h2⟩ := r.get (List.getElem?_eq_getElem hi)
    have := y vs (at_ le wd)
    rw [h1] at this
    cases this
    exact ⟨W', _, .refl _, wd, List.getElem?_eq_getElem hi, h2.le le.F⟩
theorem wk_str {z : Str} (h : z.length ≤ 16777216) : Wk K W (Its z) (z.cps.toList.map fun c => .str ⟨#[c]⟩) := by
  have hl : z.length = z.cps.size := rfl
  refine ⟨by simp only [List.length_map, Array.length_toList]; exact h, fun W' H S i le wd hi => ?_, fun W' H S le wd => ?_, fun W' H H' S i x le wd hi y => ?_⟩
  · show i < z.cps.size
    simpa using hi
  · show z.cps.size ≤ _
    simp
  · obtain ⟨rfl, c, h1, rfl⟩ := y
    refine ⟨W', .str ⟨#[c]⟩, .refl _, wd, ?_, .str _⟩
    rw [List.getElem?_map, Array.getElem?_toList, h1]
    rfl
theorem wk_rng {lo : Int} {n : Nat} (h : n ≤ 16777216) : Wk K W (Itr lo n) (rngD lo n) := by
  have hl : (rngD lo n).length = n := by simp [rngD]
  refine ⟨by rw [hl]; exact h, fun W' H S i le wd hi => ?_, fun W' H S le wd => ?_, fun W' H H' S i x le wd hi y => ?_⟩
  · rw [hl] at hi
    exact hi
  · rw [hl]
    exact Nat.le_refl n
  · obtain ⟨rfl, rfl⟩ := y
    rw [hl] at hi
    refine ⟨W', .int (lo + (i : Nat)), .refl _, wd, ?_, .int _⟩
    unfold rngD
    rw [List.getElem?_map, List.getElem?_range hi]
    rfl
theorem yld_pair {W' : Wo} {H : Hp} {S : Sto} {T : Addr} {v w : V} {d e : PyData} (wd : Wd K W' H S) (n : H T = none) (r1 : Rp K W'.F v d) (r2 : Rp K W'.F w e) :
    ∃ W2, Le W' W2 ∧ Wd K W2 (upd H T (.tup [v, w])) S ∧ Rp K W2.F (.ref T) (.tuple [d, e]) := by
  have nF := wd.freeF n
  exact ⟨_, .upd nF, wd.pure n, .tup (.inl (.inl upd_same)) (.cons (r1.le (leF_upd nF)) (.cons (r2.le (leF_upd nF)) .nil))⟩
theorem enmD_get (ds : List PyData) (i : Nat) (h : i < ds.length) : (enmD ds)[i]? = some (.tuple [.int (i : Nat), ds[i]]) := by
  unfold enmD
  rw [List.getElem?_zipWith, List.getElem?_range h, List.getElem?_eq_getElem h]
theorem enmD_len (ds : List PyData) : (enmD ds).length = ds.length := by simp [enmD]
theorem wk_enmL (e : W.F a = some (.lst vs)) (r : RpA K W.F vs ds) (h : vs.length ≤ sizeLine) : Wk K W (Ite K a) (enmD ds) := by
  have at_ : ∀ {W' H S}, Lx W W' → Wd K W' H S → SqL K H a vs := fun le wd => .inl (.inl (wd.sub.ex (le.F _ _ e) rfl))
  refine ⟨by rw [enmD_len, ← r.length]; exact szu h, fun W' H S i le wd hi => ?_, fun W' H S le wd => ⟨vs, at_ le wd, by rw [enmD_len, r.length]; exact Nat.le_refl _⟩, fun W' H H' S i x le wd hi y => ?_⟩
  · rw [enmD_len] at hi
    have hv : i < vs.length := by rw [r.length]; exact hi
    exact ⟨vs, vs[i], at_ le wd, List.getElem?_eq_getElem hv⟩
  · rw [enmD_len] at hi
    obtain ⟨T, x, rfl, n, rfl, y⟩ := y
    obtain ⟨v, h1, h2⟩ := r.get (List.getElem?_eq_getElem hi)
    have := y vs (at_ le wd)
    rw [h1] at this
    cases this
    obtain ⟨W2, l2, wd2, r2⟩ := yld_pair wd n (.int (i : Nat)) (h2.le le.F)
    exact ⟨W2, _, l2, wd2, enmD_get ds i hi, r2⟩
theorem wk_enmT (e : SqT K W.F a vs) (r : RpA K W.F vs ds) (h : vs.length ≤ sizeLine) : Wk K W (IteT K a) (enmD ds) := by
  have at_ : ∀ {W' H S}, Lx W W' → Wd K W' H S → SqT K H a vs := fun le wd => wd.sub.seqT (le.F.seqT e)
  refine ⟨by rw [enmD_len, ← r.length]; exact szu h, fun W' H S i le wd hi => ?_, fun W' H S le wd => ⟨vs, at_ le wd, by rw [enmD_len, r.length]⟩, fun W' H H' S i x le wd hi y => ?_⟩
  · rw [enmD_len] at hi
    have hv : i < vs.length := by rw [r.length]; exact hi
    exact ⟨vs, vs[i], at_ le wd, List.getElem?_eq_getElem hv⟩
  · rw [enmD_len] at hi
    obtain ⟨T, x, rfl, n, rfl, y⟩ := y
    obtain ⟨v, h1, h2⟩ := r.get (List.getElem?_eq_getElem hi)
    have := y vs (at_ le wd)
    rw [h1] at this
    cases this
    obtain ⟨W2, l2, wd2, r2⟩ := yld_pair wd n (.int (i : Nat)) (h2.le le.F)
    exact ⟨W2, _, l2, wd2, enmD_get ds i hi, r2⟩
theorem zipD_len (ds es : List PyData) : (zipD ds es).length = min ds.length es.length := by simp [zipD]
theorem wk_zipL (e1 : W.F a = some (.lst vs)) (r1 : RpA K W.F vs ds) (e2 : W.F b = some (.lst ws)) (r2 : RpA K W.F ws es) (h : ds.length ≤ 16777216) : Wk K W (Itz K a b) (zipD ds es) := by
  have at1 : ∀ {W' H S}, Lx W W' → Wd K W' H S → SqL K H a vs := fun le wd => .inl (.inl (wd.sub.ex (le.F _ _ e1) rfl))
  have at2 : ∀ {W' H S}, Lx W W' → Wd K W' H S → SqL K H b ws := fun le wd => .inl (.inl (wd.sub.ex (le.F _ _ e2) rfl))
  have l1 := r1.length
  have l2 := r2.length
  refine ⟨by rw [zipD_len]; omega, fun W' H S i le wd hi => ?_, fun W' H S le wd => ⟨vs, ws, at1 le wd, at2 le wd, by rw [zipD_len]; omega⟩, fun W' H H' S i x le wd hi y => ?_⟩
  · rw [zipD_len] at hi
    exact ⟨vs, ws, vs[i]'(by omega), ws[i]'(by omega), at1 le wd, at2 le wd, List.getElem?_eq_getElem _, List.getElem?_eq_getElem _⟩
  · rw [zipD_len] at hi
    obtain ⟨T, x, y', rfl, n, rfl, y1, y2⟩ := y
    have hd : i < ds.length := by omega
    have he : i < es.length := by omega
    obtain ⟨v, g1, g2⟩ := r1.get (List.getElem?_eq_getElem hd)
    obtain ⟨w, g3, g4⟩ := r2.get (List.getElem?_eq_getElem he)
    have q1 := y1 vs (at1 le wd)
    have q2 := y2 ws (at2 le wd)
    rw [g1] at q1
    rw [g3] at q2
    cases q1
    cases q2
    obtain ⟨W2, lw, wd2, rr⟩ := yld_pair wd n (g2.le le.F) (g4.le le.F)
    refine ⟨W2, _, lw, wd2, ?_, rr⟩
    unfold zipD
    rw [List.getElem?_zipWith, List.getElem?_eq_getElem hd, List.getElem?_eq_getElem he]
theorem wk_zipT (e1 : SqT K W.F a vs) (r1 : RpA K W.F vs ds) (e2 : SqT K W.F b ws) (r2 : RpA K W.F ws es) (h : ds.length ≤ 16777216) : Wk K W (RZ.ItzT K a b) (zipD ds es) := by
  have at1 : ∀ {W' H S}, Lx W W' → Wd K W' H S → SqT K H a vs := fun le wd => wd.sub.seqT (le.F.seqT e1)
  have at2 : ∀ {W' H S}, Lx W W' → Wd K W' H S → SqT K H b ws := fun le wd => wd.sub.seqT (le.F.seqT e2)
  have l1 := r1.length
  have l2 := r2.length
  refine ⟨by rw [zipD_len]; omega, fun W' H S i le wd hi => ?_, fun W' H S le wd => ⟨vs, ws, at1 le wd, at2 le wd, by rw [zipD_len]; omega⟩, fun W' H H' S i x le wd hi y => ?_⟩
  · rw [zipD_len] at hi
    exact ⟨vs, ws, vs[i]'(by omega), ws[i]'(by omega), at1 le wd, at2 le wd, List.getElem?_eq_getElem _, List.getElem?_eq_getElem _⟩
  · rw [zipD_len] at hi
    obtain ⟨T, x, y', rfl, n, rfl, y1, y2⟩ := y
    have hd : i < ds.length := by omega
    have he : i < es.length := by omega
    obtain ⟨v, g1, g2⟩ := r1.get (List.getElem?_eq_getElem hd)
    obtain ⟨w, g3, g4⟩ := r2.get (List.getElem?_eq_getElem he)
    have q1 := y1 vs (at1 le wd)
    have q2 := y2 ws (at2 le wd)
    rw [g1] at q1
    rw [g3] at q2
    cases q1
    cases q2
    obtain ⟨W2, lw, wd2, rr⟩ := yld_pair wd n (g2.le le.F) (g4.le le.F)
    refine ⟨W2, _, lw, wd2, ?_, rr⟩
    unfold zipD
    rw [List.getElem?_zipWith, List.getElem?_eq_getElem hd, List.getElem?_eq_getElem he]
end

/-! ### a list comprehension's block -/
section
variable {K : PySem.W.Frag}
/-- f at each of the data keeps what is watched, and hands on a datum or none -/
theorem lc_run {g : TG} {tt : TT} {te : TE} {sl : List Nat} {σ : L2.St} {f : PyData → Sto → Option (Option PyData × Sto)} {J : It} {H1 : Hp} {D : Addr} {W1 : Wo} {S1 S2 : Sto} {xs ys : List PyData} {Q : VK} (wd : Wd K W1 H1 S1) (wk : Wk K W1 J xs) (hD : H1 D = none) (e : compL f xs S1 = some (ys, S2))
    (step : ∀ (W : Wo) (H : Hp) (S S' : Sto) (x : V) (d : PyData) (o : Option PyData) (Q1 : Hp → Prop) (Q2 : V → Hp → Prop), Lx W1 W → Wd K W H S → Rp K W.F x d → f d S = some (o, S') →
      (o = none → ∀ W' H', Le W W' → Wd K W' H' S' → Q1 H') → (∀ z, o = some z → ∀ W' y H', Le W W' → Wd K W' H' S' → Rp K W'.F y z → Q2 y H') →
      g x (wipe σ sl) H fun σ2 H2 => wipe σ2 sl = wipe σ sl ∧ tt σ2 H2 fun b H3 => if b = true then te σ2 H3 Q2 else Q1 H3)
    (q : KtN K W1 S2 ys Q) :
    ∃ Wi : Nat → Nat → Hp → Prop, (∃ m, Wi 0 m (upd H1 D (.lst []))) ∧ ∀ i m H, Wi i m H →
      (J.stop i H ∧ Q (.ref D) H) ∨ (J.go i H ∧ ∃ Nx : Hp → Prop, (∀ H', Nx H' → ∃ m', m' < m ∧ Wi (i + 1) m' H') ∧ ∀ x H', J.yld i H x H' → g x (wipe σ sl) H' fun σ2 H2 => wipe σ2 sl = wipe σ sl ∧ tt σ2 H2 fun b H3 =>
        if b = true then te σ2 H3 fun y H4 => ∃ acc, H4 D = some (.lst acc) ∧ acc.length < sizeLine ∧ Nx (upd H4 D (.lst (acc ++ [y]))) else Nx H3) := by
  -- the state between two turns
  let Iv : Nat → Hp → Prop := fun i H => ∃ W S vs acc rest, Le W1 W ∧ Wd K W H S ∧ H D = some (.lst vs) ∧ W.F D = none ∧ D ∉ W.ρ ∧ W.G D = none ∧ RpA K W.F vs acc ∧ vs.length ≤ i ∧ compL f (xs.drop i) S = some (rest, S2) ∧ acc ++ rest = ys
  refine ⟨fun i m H => m = xs.length - i ∧ i ≤ xs.length ∧ Iv i H, ⟨xs.length, by simp, Nat.zero_le _, W1, S1, [], [], ys, .refl _, wd.junk hD, upd_same, wd.freeF hD, wd.notin hD, wd.freeG hD, .nil, Nat.le_refl _, by simpa using e, rfl⟩, ?_⟩
  rintro i m H ⟨rfl, hi, W, S, vs, acc, rest, le, wdi, hd, nF, nr, nG, ra, hv, er, ea⟩
  by_cases hlt : i < xs.length
  · refine .inr ⟨wk.go W H S i le.x wdi hlt, Iv (i + 1), fun H' h' => ⟨xs.length - (i + 1), by omega, rfl, hlt, h'⟩, fun x H' y => ?_⟩
    have lw : Lx W1 ⟨W.F, W.ρ, upd W.G D (.lst vs)⟩ := ⟨le.F, le.ρ⟩
    obtain ⟨W3, d, le3, wd3, ed, rd⟩ := wk.yld ⟨W.F, W.ρ, upd W.G D (.lst vs)⟩ H H' S i x lw (wdi.watch hd nF nr) hlt y
    have l13 : Lx W1 W3 := lw.trans le3.x
    have g3 : W3.G = upd W.G D (.lst vs) := le3.G
    rw [List.drop_eq_getElem_cons hlt] at er
    have ed' : xs[i] = d := by
      rw [List.getElem?_eq_getElem hlt] at ed
      exact Option.some.inj ed
    rw [ed'] at er
    unfold compL at er
    split at er
    · cases er
    · rename_i o S3 ef
      split at er
      · cases er
      · rename_i rest' S4 ec
        cases er
        -- behind the turn: what is watched stands
        have see : ∀ {W' H'}, Le W3 W' → Wd K W' H' S3 → H' D = some (.lst vs) ∧ W'.F D = none ∧ D ∉ W'.ρ ∧ Le W1 ⟨W'.F, W'.ρ, W.G⟩ ∧ Wd K ⟨W'.F, W'.ρ, W.G⟩ H' S3 ∧ RpA K W'.F vs acc := fun {W' H'} le' wd' => by
          have g' : W'.G = upd W.G D (.lst vs) := le'.G.trans g3
          obtain ⟨f0, f1, f2⟩ := wd'.gu D (.lst vs) (by rw [g', upd_same])
          have lx := l13.trans le'.x
          refine ⟨f0, f1, f2, ⟨lx.F, lx.ρ, le.G⟩, wd'.unwatch fun a u z => ?_, ra.le fun a u z => le'.F a u (le3.F a u z)⟩
          rw [g', upd_ne (ne_of_none (H := W.G) z nG)]
          exact z
        refine step W3 H' S S3 x d o _ _ l13 wd3 rd ef (fun eo W' H'' le' wd' => ?_) fun z eo W' y' H'' le' wd' ry => ?_
        · obtain ⟨f0, f1, f2, f3, f4, f5⟩ := see le' wd'
          subst eo
          exact ⟨_, S3, vs, acc, rest', f3, f4, f0, f1, f2, nG, f5, Nat.le_succ_of_le hv, ec, ea⟩
        · obtain ⟨f0, f1, f2, f3, f4, f5⟩ := see le' wd'
          subst eo
          have hsz : xs.length ≤ sizeLine := szl wk.sz
          refine ⟨vs, f0, by omega, ⟨W'.F, W'.ρ, W.G⟩, S3, vs ++ [y'], acc ++ [z], rest', f3, f4.heap fun b => ?_, upd_same, f1, f2, nG, f5.append (.cons ry .nil), by rw [List.length_append]; show vs.length + 1 ≤ i + 1; omega, ec, by simpa using ea⟩
          by_cases hb : b = D
          · subst hb
            exact .inr ⟨f1, f2, nG⟩
          · exact .inl (upd_ne hb)
  · have ei : i = xs.length := by omega
    subst ei
    rw [List.drop_length] at er
    cases er
    refine .inl ⟨wk.stop W H _ le.x wdi, ?_⟩
    have ey : acc = ys := by simpa using ea
    subst ey
    exact q W D vs H le wdi nF nr nG hd ra
end
end PV

/-! PV12: the soundness of expressions, case by case. -/
namespace PV
open PySem PySem.Spec PyProof.Rows L2
section
variable {nm : Nm} {Φ : List Fs} {Γ : List PyData} {lv : Nat} {X : Cx} (at_ : At nm Φ Γ lv X)
include at_
theorem c_var {i : Nat} {x : Str} {pos : Pos} (h1 : X.N[i]? = some x) (h2 : Vis X.env.scope x) (h3 : plainNm x = true) : PE X (.Name x pos) (rdE X.K Φ Γ (.var i)) := by
  obtain ⟨_, p2, p3⟩ := plainNm_ok h3
  refine PE_imp (pe_var h1 h2 p2 p3) fun σ H Q ⟨W, env, S, a, S', wd, re, e, q⟩ => ?_
  simp only [ev] at e
  split at e
  · rename_i a' ea
    cases e
    obtain ⟨v, h1, r⟩ := re.at_ _ _ ea
    exact ⟨v, h1, q W v H (.refl W) wd r⟩
  · cases e
theorem c_cst {c : PyData} {k : Const} {j : Nat} {pos : Pos} (h : cstOk c k = true) : PE X (.Constant k j pos) (rdE X.K Φ Γ (.cst c)) := by
  have go : ∀ {v : V}, PE X (.Constant k j pos) (tC v) → (∀ F, Rp X.K F v c) → PE X (.Constant k j pos) (rdE X.K Φ Γ (.cst c)) := fun hp hr => by
    refine PE_imp hp fun σ H Q ⟨W, env, S, a, S', wd, re, e, q⟩ => ?_
    simp only [ev] at e
    cases e
    exact q.flat wd (hr _)
  unfold cstOk at h
  split at h
  · split at h
    · exact go pe_non fun _ => .non
    · cases h
  · split at h
    · rename_i b _ b'
      have : b = b' := by simpa using h
      subst this
      exact go pe_bl fun _ => .bl _
    · cases h
  · split at h
    · rename_i b _ b'
      have : b = b' := of_decide_eq_true h
      subst this
      exact go pe_int fun _ => .int _
    · cases h
  · split at h
    · rename_i b _ b'
      have : b = b' := of_decide_eq_true h
      subst this
      exact go pe_str fun _ => .str _
    · cases h
  · cases h
theorem c_glb {i : Nat} {x : Str} {pos : Pos} (h1 : nm.gl[i]? = some x) (h2 : isGl X.env.scope x = true) (h3 : plainNm x = true) : PE X (.Name x pos) (rdE X.K Φ Γ (.glb i)) := by
  obtain ⟨p1, p2, p3⟩ := plainNm_ok h3
  obtain ⟨u, v, d, g1, g2, g3, g4⟩ := at_.gls i x h1
  refine PE_imp (pe_glob (isGl_ok h2) g2 g3 p2) fun σ H Q ⟨W, env, S, a, S', wd, re, e, q⟩ => ?_
  simp only [ev, g1] at e
  cases e
  exact q.flat wd (g4 _)
theorem evs_len : ∀ {es : Exs} {env : En} {S S' : Sto} {as : List A} {xs : List Expr} {sc : Scope} {ow : Str → Bool}, evs Φ Γ es env S = some (as, S') → agEs nm X.N sc ow es xs = true → as.length = xs.length
  | .nil, _, _, _, _, xs, _, _, e, h => by
    simp only [evs] at e
    cases e
    cases xs with
    | nil => rfl
    | cons x xs => simp [agEs] at h
  | .cons e1 es, env, S, S', as, xs, sc, ow, e, h => by
    simp only [evs] at e
    split at e
    · cases e
    · split at e
      · cases e
      · rename_i a S1 _ as' S2 e2
        cases e
        cases xs with
        | nil => simp [agEs] at h
        | cons x xs =>
          simp only [agEs, Bool.and_eq_true] at h
          rw [List.length_cons, List.length_cons, evs_len e2 h.2]
theorem c_tup {es : Exs} {xs : List Expr} {k : Nat} {pos : Pos} {sc : Scope} {ow : Str → Bool} (hl : xs.length ≤ 1000) (ha : agEs nm X.N sc ow es xs = true) (hp : PA X xs (rdA X.K Φ Γ es)) : PE X (.Tuple xs k pos) (rdE X.K Φ Γ (.tup es)) := by
  refine PE_imp (pe_tup hp) fun σ H Q ⟨W, env, S, a, S', wd, re, e, q⟩ => ?_
  simp only [ev] at e
  split at e
  · cases e
  · rename_i as S1 e1
    refine ⟨W, env, S, as, S1, wd, re, e1, fun W1 vs H1 le1 wd1 ra1 => ⟨?_, fun p hn => ?_⟩⟩
    · rw [ra1.length, evs_len at_ e1 ha]
      exact Nat.le_of_lt (small1000 hl)
    · split at e
      · rename_i ds S2 e2
        cases e
        obtain ⟨W2, le2, _, wd2, r2⟩ := wd1.frzAll ra1 e2
        have q2 : Kt X.K W2 _ (.d (.tuple ds)) Q := fun W' v H' l => q W' v H' ((le1.trans le2).trans l)
        exact q2.newT wd2 r2 hn
      · split at e
        · rename_i x y _
          cases e
          cases ra1 with
          | cons r1 t =>
            cases t with
            | cons r2 t =>
              cases t
              have nF := wd1.freeF hn
              exact q _ _ _ (le1.trans (.upd nF)) (wd1.pure hn) ⟨p, _, _, rfl, .inl (.inl upd_same), r1.le (.upd nF), r2.le (.upd nF)⟩
        · cases e
theorem c_lstN {es : Exs} {xs : List Expr} {pos : Pos} {sc : Scope} {ow : Str → Bool} (hl : xs.length ≤ 1000) (ha : agEs nm X.N sc ow es xs = true) (hp : PA X xs (rdA X.K Φ Γ es)) : PE X (.List xs pos) (rdN X.K Φ Γ (.lst es)) := by
  refine PE_imp (pe_lst hp) fun σ H Q ⟨W, env, S, ds, S', wd, re, e, q⟩ => ?_
  simp only [ev] at e
  split at e
  · cases e
  · rename_i as S1 e1
    refine ⟨W, env, S, as, S1, wd, re, e1, fun W1 vs H1 le1 wd1 ra1 => ⟨?_, fun p hn => ?_⟩⟩
    · rw [ra1.length, evs_len at_ e1 ha]
      exact Nat.le_of_lt (small1000 hl)
    · split at e
      · rename_i ds' S2 e2
        cases e
        obtain ⟨W2, le2, eρ, wd2, r2⟩ := wd1.frzAll ra1 e2
        exact q W2 p vs _ (le1.trans le2) (wd2.junk hn) (wd2.freeF hn) (wd2.notin hn) (wd2.freeG hn) upd_same r2
      · cases e
/-- a new list that is told at once -/
theorem c_ofN {e : Ex} {ast : Expr} (h : PE X ast (rdN X.K Φ Γ e)) (hd : ∀ env S a S', ev Φ Γ e env S = some (a, S') → ∃ ds, a = .d (.list ds)) : PE X ast (rdE X.K Φ Γ e) := by
  refine PE_imp h fun σ H Q ⟨W, env, S, a, S', wd, re, e1, q⟩ => ?_
  obtain ⟨ds, rfl⟩ := hd _ _ _ _ e1
  refine ⟨W, env, S, ds, S', wd, re, e1, fun W1 p vs H1 le1 wd1 nF nr nG hp r => ?_⟩
  exact q ⟨upd W1.F p (.lst vs), W1.ρ, W1.G⟩ _ H1 (le1.trans (.upd nF)) (wd1.keep hp nF nr nG) (.lst upd_same (r.le (leF_upd nF)))
theorem c_fresh {e : Ex} {ast : Expr} (h : PE X ast (rdN X.K Φ Γ e)) : PE X ast (rdE X.K Φ Γ (.fresh e)) := by
  refine PE_imp h fun σ H Q ⟨W, env, S, a, S', wd, re, e1, q⟩ => ?_
  simp only [ev] at e1
  split at e1
  · rename_i x S1 e2
    split at e1
    · rename_i o eo
      cases e1
      unfold newOb at eo
      split at eo
      · rename_i ds
        cases eo
        refine ⟨W, env, S, ds, S1, wd, re, e2, fun W1 p vs H1 le1 wd1 nF nr nG hp r => ?_⟩
        refine q ⟨W1.F, W1.ρ ++ [p], W1.G⟩ _ H1 (le1.trans .newOb) (wd1.newOb nr nG ⟨vs, hp, r, by simpa using nF⟩) ⟨p, ?_, rfl⟩
        show (W1.ρ ++ [p])[S1.length]? = some p
        rw [← wd1.len]
        simp
      · cases eo
    · cases e1
  · cases e1
theorem c_bin {o : Operator} {a b : Ex} {l r : Expr} {pos : Pos} (ha : PE X l (rdE X.K Φ Γ a)) (hb : PE X r (rdE X.K Φ Γ b)) : PE X (.BinOp l o r pos) (rdE X.K Φ Γ (.bin o a b)) := by
  refine PE_imp (pe_op (op_bin o) ha hb) fun σ H Q ⟨W, env, S, a', S', wd, re, e, q⟩ => ?_
  simp only [ev] at e
  split at e
  · cases e
  · rename_i x S1 e1
    split at e
    · cases e
    · rename_i y S2 e2
      cases e3 : binF o x y S2 with
      | none =>
        rw [e3] at e
        cases e
      | some c =>
        rw [e3] at e
        cases e
        exact ⟨W, env, S, x, S1, wd, re, e1, fun W1 v1 H1 le1 wd1 r1 => ⟨W1, env, S1, y, _, wd1, re.le le1, e2, fun W2 v2 H2 le2 wd2 r2 => ⟨W2, _, x, y, _, wd2, r1.le le2, r2, e3, fun W' v H' l => q W' v H' ((le1.trans le2).trans l)⟩⟩⟩
theorem c_neg {a : Ex} {l : Expr} {pos : Pos} (ha : PE X l (rdE X.K Φ Γ a)) : PE X (.UnaryOp .USub l pos) (rdE X.K Φ Γ (.neg a)) := by
  refine PE_imp (pe_un un_neg ha) fun σ H Q ⟨W, env, S, a', S', wd, re, e, q⟩ => ?_
  simp only [ev] at e
  split at e
  · rename_i i S1 e1
    cases e
    refine ⟨W, env, S, _, _, wd, re, e1, fun W1 v1 H1 le1 wd1 r1 => ?_⟩
    cases r1
    exact ⟨i, rfl, q W1 _ H1 le1 wd1 (.int _)⟩
  · cases e
theorem c_cmp {o : CmpOp} {a b : Ex} {l r : Expr} {pos : Pos} (hm : behindInMarks o r = false) (ha : PE X l (rdE X.K Φ Γ a)) (hb : PE X r (rdE X.K Φ Γ b)) : PE X (.Compare l [o] [r] pos) (rdE X.K Φ Γ (.cmp o a b)) := by
  refine PE_imp (pe_cmpR (op_cmpF o at_.hu) ha hb hm) fun σ H Q ⟨W, env, S, a', S', wd, re, e, q⟩ => ?_
  simp only [ev] at e
  split at e
  · cases e
  · rename_i x S1 e1
    split at e
    · cases e
    · rename_i y S2 e2
      cases e3 : cmpF o x y S2 with
      | none =>
        rw [e3] at e
        cases e
      | some c =>
        rw [e3] at e
        cases e
        exact ⟨W, env, S, x, S1, wd, re, e1, fun W1 v1 H1 le1 wd1 r1 => ⟨W1, env, S1, y, _, wd1, re.le le1, e2, fun W2 v2 H2 le2 wd2 r2 => ⟨W2, _, x, y, .d (.bool c), wd2, r1.le le2, r2, by simp only [e3]; rfl, fun W' v H' l => q W' v H' ((le1.trans le2).trans l)⟩⟩⟩
theorem c_cmpT {o : CmpOp} {a b : Ex} {l r : Expr} {pos : Pos} (hm : behindInMarks o r = false) (ha : PE X l (rdE X.K Φ Γ a)) (hb : PE X r (rdE X.K Φ Γ b)) : PT X (.Compare l [o] [r] pos) (rdT X.K Φ Γ (.cmp o a b)) := by
  refine PT_imp (pt_cmpR (op_cmpF o at_.hu) ha hb hm) fun σ H Q ⟨W, env, S, a', S', k, wd, re, e, et, q⟩ => ?_
  simp only [ev] at e
  split at e
  · cases e
  · rename_i x S1 e1
    split at e
    · cases e
    · rename_i y S2 e2
      cases e3 : cmpF o x y S2 with
      | none =>
        rw [e3] at e
        cases e
      | some c =>
        rw [e3] at e
        cases e
        have ek : k = c := (Option.some.inj et).symm
        subst ek
        exact ⟨W, env, S, x, S1, wd, re, e1, fun W1 v1 H1 le1 wd1 r1 => ⟨W1, env, S1, y, _, wd1, re.le le1, e2, fun W2 v2 H2 le2 wd2 r2 => ⟨W2, _, x, y, .d (.bool k), wd2, r1.le le2, r2, by simp only [e3]; rfl, fun W' v H' l w' r' => by
          cases r'
          exact ⟨k, rfl, q W' H' ((le1.trans le2).trans l) w'⟩⟩⟩⟩
omit at_ in
theorem chn_t {o p : CmpOp} {a b c : Ex} {W : Wo} {env : En} {S S' : Sto} {σ : L2.St} {H : Hp} {c' : A} {Q : VK} (wd : Wd X.K W H S) (re : Re X.K W σ env) (e : ev Φ Γ (.chn o p a b c) env S = some (c', S')) (q : ∀ W' k H', Le W W' → Wd X.K W' H' S' → c' = .d (.bool k) → Q (.bl k) H') :
    tChain (rB X.K fun a b S => (cmpF o a b S).map fun c => .d (.bool c)) (rB X.K fun a b S => (cmpF p a b S).map fun c => .d (.bool c)) (rdE X.K Φ Γ a) (rdE X.K Φ Γ b) (rdE X.K Φ Γ c) σ H Q := by
  simp only [ev] at e
  split at e
  · cases e
  · rename_i x S1 e1
    split at e
    · cases e
    · rename_i y S2 e2
      refine ⟨W, env, S, x, S1, wd, re, e1, fun W1 v1 H1 le1 wd1 r1 => ⟨W1, env, S1, y, S2, wd1, re.le le1, e2, fun W2 v2 H2 le2 wd2 r2 => ?_⟩⟩
      split at e
      · cases e
      · rename_i e3
        cases e
        refine ⟨W2, _, x, y, .d (.bool false), wd2, r1.le le2, r2, by simp only [e3]; rfl, fun W' v H' l w' r' => ?_⟩
        cases r'
        refine ⟨false, rfl, ?_⟩
        rw [if_neg Bool.false_ne_true]
        exact q W' false H' ((le1.trans le2).trans l) w' rfl
      · rename_i e3
        refine ⟨W2, _, x, y, .d (.bool true), wd2, r1.le le2, r2, by simp only [e3]; rfl, fun W' v H' l w' r' => ?_⟩
        cases r'
        refine ⟨true, rfl, ?_⟩
        rw [if_pos rfl]
        split at e
        · cases e
        · rename_i z S3 e4
          cases e5 : cmpF p y z S3 with
          | none =>
            rw [e5] at e
            cases e
          | some k =>
            rw [e5] at e
            cases e
            refine ⟨W', env, S2, z, _, w', ((re.le le1).le le2).le l, e4, fun W4 v4 H4 le4 wd4 r4 => ?_⟩
            refine ⟨W4, _, y, z, .d (.bool k), wd4, (r2.le l).le le4, r4, by simp only [e5]; rfl, fun W5 v5 H5 l5 w5 r5 => ?_⟩
            cases r5
            exact q W5 k H5 ((((le1.trans le2).trans l).trans le4).trans l5) w5 rfl
theorem c_chn {o p : CmpOp} {a b c : Ex} {l r t : Expr} {pos : Pos} (hm : behindInMarks p t = false) (ha : PE X l (rdE X.K Φ Γ a)) (hb : PE X r (rdE X.K Φ Γ b)) (hc : PE X t (rdE X.K Φ Γ c)) : PE X (.Compare l [o, p] [r, t] pos) (rdE X.K Φ Γ (.chn o p a b c)) := by
  refine PE_imp (pe_chain (op_cmpF o at_.hu) (op_cmpF p at_.hu) ha hb hc hm) fun σ H Q ⟨W, env, S, a', S', wd, re, e, q⟩ => ?_
  exact chn_t wd re e fun W' k H' le wd' ek => q W' _ H' le wd' (by rw [ek]; exact .bl k)
theorem c_chnT {o p : CmpOp} {a b c : Ex} {l r t : Expr} {pos : Pos} (hm : behindInMarks p t = false) (ha : PE X l (rdE X.K Φ Γ a)) (hb : PE X r (rdE X.K Φ Γ b)) (hc : PE X t (rdE X.K Φ Γ c)) : PT X (.Compare l [o, p] [r, t] pos) (rdT X.K Φ Γ (.chn o p a b c)) := by
  refine PT_imp (pt_chain (op_cmpF o at_.hu) (op_cmpF p at_.hu) ha hb hc hm) fun σ H Q ⟨W, env, S, a', S', k, wd, re, e, et, q⟩ => ?_
  refine chn_t wd re e fun W' k' H' le wd' ek => ⟨k', rfl, ?_⟩
  subst ek
  have : k' = k := Option.some.inj et
  subst this
  exact q W' H' le wd'
theorem c_not {a : Ex} {l : Expr} {pos : Pos} (ha : PE X l (rdE X.K Φ Γ a)) : PE X (.UnaryOp .Not l pos) (rdE X.K Φ Γ (.not a)) := by
  refine PE_imp (pe_notT ha) fun σ H Q ⟨W, env, S, a', S', wd, re, e, q⟩ => ?_
  simp only [ev] at e
  split at e
  · cases e
  · rename_i x S1 e1
    cases e2 : tru S1 x with
    | none =>
      rw [e2] at e
      cases e
    | some k =>
      rw [e2] at e
      cases e
      exact ⟨W, env, S, x, _, wd, re, e1, fun W1 v1 H1 le1 wd1 r1 => ⟨k, tru_V wd1 r1 e2, q W1 _ H1 le1 wd1 (.bl _)⟩⟩
theorem c_notT {a : Ex} {l : Expr} {pos : Pos} (ha : PT X l (rdT X.K Φ Γ a)) : PT X (.UnaryOp .Not l pos) (rdT X.K Φ Γ (.not a)) := by
  refine PT_imp (pt_not ha) fun σ H Q ⟨W, env, S, a', S', k, wd, re, e, et, q⟩ => ?_
  simp only [ev] at e
  split at e
  · cases e
  · rename_i x S1 e1
    cases e2 : tru S1 x with
    | none =>
      rw [e2] at e
      cases e
    | some k' =>
      rw [e2] at e
      cases e
      have : (!k') = k := Option.some.inj et
      subst this
      exact ⟨W, env, S, x, _, k', wd, re, e1, e2, fun W1 H1 le1 wd1 => q W1 H1 le1 wd1⟩
theorem c_ite {t a b : Ex} {z x y : Expr} {pos : Pos} (ht : PT X z (rdT X.K Φ Γ t)) (ha : PE X x (rdE X.K Φ Γ a)) (hb : PE X y (rdE X.K Φ Γ b)) : PE X (.IfExp z x y pos) (rdE X.K Φ Γ (.ite t a b)) := by
  refine PE_imp (pe_ifExp ht ha hb) fun σ H Q ⟨W, env, S, a', S', wd, re, e, q⟩ => ?_
  simp only [ev] at e
  split at e
  · cases e
  · rename_i c S1 e1
    split at e
    · cases e
    · rename_i e2
      exact ⟨W, env, S, c, S1, true, wd, re, e1, e2, fun W1 H1 le1 wd1 => iteT ⟨W1, env, S1, a', S', wd1, re.le le1, e, fun W' v H' l => q W' v H' (le1.trans l)⟩⟩
    · rename_i e2
      exact ⟨W, env, S, c, S1, false, wd, re, e1, e2, fun W1 H1 le1 wd1 => iteF ⟨W1, env, S1, a', S', wd1, re.le le1, e, fun W' v H' l => q W' v H' (le1.trans l)⟩⟩
theorem c_ix {a b : Ex} {l r : Expr} {pos : Pos} (hs : notSl r = true) (ha : PE X l (rdE X.K Φ Γ a)) (hb : PE X r (rdE X.K Φ Γ b)) : PE X (.Subscript l r pos) (rdE X.K Φ Γ (.ix a b)) := by
  refine PE_imp (pe_ix ix_F ha hb (plainIx_of hs)) fun σ H Q ⟨W, env, S, a', S', wd, re, e, q⟩ => ?_
  simp only [ev] at e
  split at e
  · cases e
  · rename_i x S1 e1
    split at e
    · cases e
    · rename_i y S2 e2
      cases e3 : ixF x y S2 with
      | none =>
        rw [e3] at e
        cases e
      | some c =>
        rw [e3] at e
        cases e
        exact ⟨W, env, S, x, S1, wd, re, e1, fun W1 v1 H1 le1 wd1 r1 => ⟨W1, env, S1, y, _, wd1, re.le le1, e2, fun W2 v2 H2 le2 wd2 r2 => ⟨W2, _, x, y, _, wd2, r1.le le2, r2, e3, fun W' v H' l => q W' v H' ((le1.trans le2).trans l)⟩⟩⟩
theorem c_slc {a : Ex} {lo hi : Exs} {x : Expr} {l h : Option Expr} {p2 pos : Pos} (ha : PE X x (rdE X.K Φ Γ a)) (hl : PO X l (rdO X.K Φ Γ lo)) (hh : PO X h (rdO X.K Φ Γ hi)) : PE X (.Subscript x (.Slice l h none p2) pos) (rdE X.K Φ Γ (.slc a lo hi)) := by
  refine PE_imp (pe_slice sl_F ha hl hh) fun σ H Q ⟨W, env, S, a', S', wd, re, e, q⟩ => ?_
  simp only [ev] at e
  split at e
  · cases e
  · rename_i y S1 e1
    split at e
    · cases e
    · rename_i ol S2 e2
      split at e
      · cases e
      · rename_i oh S3 e3
        split at e
        · cases e
        · rename_i dy e4
          cases e5 : slcD dy ol oh with
          | none =>
            rw [e5] at e
            cases e
          | some c =>
            rw [e5] at e
            cases e
            exact ⟨W, env, S, y, S1, wd, re, e1, fun W1 v1 H1 le1 wd1 r1 => ⟨W1, env, S1, ol, S2, wd1, re.le le1, e2, fun W2 H2 le2 wd2 => ⟨W2, env, S2, oh, _, wd2, (re.le le1).le le2, e3, fun W3 H3 le3 wd3 =>
              ⟨W3, _, y, dy, _, wd3, (r1.le le2).le le3, e4, e5, fun W' v H' l => q W' v H' (((le1.trans le2).trans le3).trans l)⟩⟩⟩⟩
theorem c_call {f : Nat} {es : Exs} {x : Str} {xs : List Expr} {p pos : Pos} {sc : Scope} {ow : Str → Bool} (h1 : nm.fn[f]? = some (x, xs.length)) (h2 : isGl X.env.scope x = true) (h3 : plainNm x = true) (hs : allSt xs = true) (ha : agEs nm X.N sc ow es xs = true) (hp : PA X xs (rdA X.K Φ Γ es)) :
    PE X (.Call (.Name x p) xs [] pos) (rdE X.K Φ Γ (.call f es)) := by
  obtain ⟨m, fA, fd, ps, g1, g2, g3, g4, g5⟩ := at_.fns f x _ h1
  obtain ⟨_, p2, _⟩ := plainNm_ok h3
  have key : ∀ σ H Q, rdE X.K Φ Γ (.call f es) σ H Q → tCall (spF X.K xs.length m) [] E0 (rdA X.K Φ Γ es) σ H Q := fun σ H Q ⟨W, env, S, a', S', wd, re, e, q⟩ => by
    simp only [ev] at e
    split at e
    · cases e
    · rename_i as S1 e1
      rw [g1] at e
      simp only at e
      split at e
      · cases e
      · rename_i r S2 e2
        cases e
        refine ⟨W, env, S, as, S1, wd, re, e1, fun W1 vs H1 le1 wd1 ra1 => ?_⟩
        show spF X.K xs.length m (vs ++ []) H1 Q E0
        rw [List.append_nil]
        refine ⟨by rw [ra1.length, evs_len at_ e1 ha], W1, S1, as, _, S2, wd1, ra1, e2, fun W2 v H2 le2 wd2 r2 => ?_⟩
        obtain ⟨W3, le3, wd3, r3⟩ := Wd.gc (S1 := S1) wd1.len le2 wd2 r2
        exact q W3 v H2 (le1.trans le3) wd3 r3
  cases xs with
  | nil =>
    refine PE_imp (pe_call0 (E := E0) g4 at_.room (isGl_ok h2) g2 g3 g5 .nil pass0 p2) fun σ H Q h => ?_
    obtain ⟨W, env, S, as, S1, wd, re, e1, k⟩ := key σ H Q h
    cases es with
    | nil =>
      simp only [evs] at e1
      cases e1
      exact k W [] H (.refl W) wd .nil
    | cons e es => simp [agEs] at ha
  | cons y ys =>
    simp only [allSt, Bool.and_eq_true] at hs
    exact PE_imp (pe_call (E := E0) g4 at_.room (isGl_ok h2) g2 g3 g5 .nil pass0 hp p2 (star_of hs.1 _ _) (back_of _ _ hs.2)) key
end
end PV

/-! PV13: the soundness of expressions, further cases, and all of them. -/
namespace PV
open PySem PySem.Spec PyProof.Rows L2
theorem boot_any' : bootBuiltins (Str.ofString "any") = some (.builtin "any") := by decide +kernel
section
variable {nm : Nm} {Φ : List Fs} {Γ : List PyData} {lv : Nat} {X : Cx} (at_ : At nm Φ Γ lv X)
include at_
theorem blt_key {b : Bl} {es : Exs} : ∀ σ H Q, rdE X.K Φ Γ (.blt b es) σ H Q → tCB (rL X.K (bltF b)) (rdA X.K Φ Γ es) σ H Q := fun σ H Q ⟨W, env, S, a, S', wd, re, e, q⟩ => by
  simp only [ev] at e
  split at e
  · cases e
  · rename_i as S1 e1
    cases e2 : bltF b as S1 with
    | none =>
      rw [e2] at e
      cases e
    | some c =>
      rw [e2] at e
      cases e
      exact ⟨W, env, S, as, _, wd, re, e1, fun W1 vs H1 le1 wd1 ra1 => ⟨W1, _, as, _, wd1, ra1, e2, fun W' v H' l => q W' v H' (le1.trans l)⟩⟩
theorem c_blt {b : Bl} {es : Exs} {y : Expr} {ys : List Expr} {p pos : Pos} (h2 : isGl X.env.scope b.nm = true) (h1 : notSt y = true) (hs : allSt ys = true) (hp : PA X (y :: ys) (rdA X.K Φ Γ es)) : PE X (.Call (.Name b.nm p) (y :: ys) [] pos) (rdE X.K Φ Γ (.blt b es)) := by
  have hc := bl_ok (X := X) b at_.calm at_.hu
  have st := star_of (e := y) h1 ys X.env
  have bk := back_of (es := ys) pos X.env hs
  refine PE_imp ?_ (blt_key at_)
  cases b with
  | len => exact pe_callB hc (isGl_ok h2) (at_.blt _ (by decide)) (by decide +kernel) hp (by decide) (by decide) st bk
  | sum => exact pe_callB hc (isGl_ok h2) (at_.blt _ (by decide)) (by decide +kernel) hp (by decide) (by decide) st bk
  | mn => exact pe_callB hc (isGl_ok h2) (at_.blt _ (by decide)) (by decide +kernel) hp (by decide) (by decide) st bk
  | mx => exact pe_callB hc (isGl_ok h2) (at_.blt _ (by decide)) (by decide +kernel) hp (by decide) (by decide) st bk
  | any => exact pe_callB hc (isGl_ok h2) (at_.blt _ (by decide)) (by decide +kernel) hp (by decide) (by decide) st bk
  | all => exact pe_callB hc (isGl_ok h2) (at_.blt _ (by decide)) (by decide +kernel) hp (by decide) (by decide) st bk
  | sorted => exact pe_callB hc (isGl_ok h2) (at_.blt _ (by decide)) (by decide +kernel) hp (by decide) (by decide) st bk
  | list => exact pe_callTy hc (isGl_ok h2) (at_.blt _ (by decide)) (by decide +kernel) hp (by decide) (by decide) st bk
  | tuple => exact pe_callTy hc (isGl_ok h2) (at_.blt _ (by decide)) (by decide +kernel) hp (by decide) (by decide) st bk
  | int => exact pe_callTy hc (isGl_ok h2) (at_.blt _ (by decide)) (by decide +kernel) hp (by decide) (by decide) st bk
  | abs => exact pe_callB hc (isGl_ok h2) (at_.blt _ (by decide)) (by decide +kernel) hp (by decide) (by decide) st bk
omit at_ in
/-- what list and sorted make is new -/
theorem new_ok (b : Bl) (hb : b = .list ∨ b = .sorted) (hc : X.calm = true) (hu : X.A.units + 65 < cLine) : CallR X (blV b) (fun vs H Q => ∃ W S as ds, Wd X.K W H S ∧ RaA X.K W vs as ∧ bltF b as S = some (.d (.list ds)) ∧ KtN X.K W S ds Q) := by
  intro pins s σ H vs us Q I r ⟨W, S, as, ds, wd, ra, e, q⟩
  have fin : ∀ {p : Addr} {ws : List V}, H p = none → RpA X.K W.F ws ds → Q (.ref p) (upd H p (.lst ws)) := fun hn r => q W _ _ _ (.refl W) (wd.junk hn) (wd.freeF hn) (wd.notin hn) (wd.freeG hn) upd_same r
  unfold bltF at e
  split at e
  · rename_i a
    obtain ⟨v, rfl, ra1⟩ : ∃ v, vs = [v] ∧ Ra X.K W v a := by
      cases ra with
      | cons r1 t =>
        cases t
        exact ⟨_, rfl, r1⟩
    split at e
    · rename_i ns
      split at e
      · cases e
        obtain ⟨p, rfl, hq⟩ := ra1
        refine call_list_of pins s σ H _ us Q I r ⟨p, _, rfl, .inl (wd.sub.seqL hq), fun l hl => fin hl ?_⟩
        clear hq q r ra fin
        induction ns with
        | nil => exact .nil
        | cons n ns ih => exact .cons (.int n) ih
      · cases e
    · cases hda : deref S a with
      | none =>
        rw [hda] at e
        cases e
      | some x =>
        have px := wd.deref ra1 hda
        rcases hb with rfl | rfl
        · cases eb : bltD .list x with
          | none =>
            simp only [hda, Option.bind_some, eb, Option.map_none] at e
            cases e
          | some d =>
            simp only [hda, Option.bind_some, eb, Option.map_some] at e
            cases e
            simp only [bltD] at eb
            split at eb
            · cases eb
              obtain ⟨p, ws, rfl, h1, r1⟩ := px.list wd.sub
              exact call_list_of pins s σ H _ us Q I r ⟨p, ws, rfl, .inl (.inl (.inl h1)), fun l hl => fin hl r1⟩
            · cases eb
              obtain ⟨p, ws, rfl, h1, r1⟩ := px.tup
              exact call_list_of pins s σ H _ us Q I r ⟨p, ws, rfl, .inr (wd.sub.seqT h1), fun l hl => fin hl r1⟩
            · cases eb
        · cases eb : bltD .sorted x with
          | none =>
            simp only [hda, Option.bind_some, eb, Option.map_none] at e
            cases e
          | some d =>
            simp only [hda, Option.bind_some, eb, Option.map_some] at e
            cases e
            simp only [bltD] at eb
            split at eb
            · rename_i xs
              cases hi : sortD xs with
              | none =>
                rw [hi] at eb
                cases eb
              | some ys =>
                rw [hi] at eb
                cases eb
                obtain ⟨p, ws, rfl, h1, r1⟩ := px.list wd.sub
                exact sorted_ok hu pins s σ H _ us Q I r ⟨W, S, p, ws, xs, _, wd, rfl, h1, r1, hi, fun p2 zs hn rz => fin hn rz⟩
            · cases eb
  · rcases hb with rfl | rfl <;> cases e
  · cases e
theorem c_bltN {b : Bl} {es : Exs} {y : Expr} {ys : List Expr} {p pos : Pos} (hb : b = .list ∨ b = .sorted) (h2 : isGl X.env.scope b.nm = true) (h1 : notSt y = true) (hs : allSt ys = true) (hp : PA X (y :: ys) (rdA X.K Φ Γ es)) : PE X (.Call (.Name b.nm p) (y :: ys) [] pos) (rdN X.K Φ Γ (.blt b es)) := by
  have hc := new_ok (X := X) b hb at_.calm at_.hu
  have st := star_of (e := y) h1 ys X.env
  have bk := back_of (es := ys) pos X.env hs
  have key : ∀ σ H Q, rdN X.K Φ Γ (.blt b es) σ H Q → tCB (fun vs H Q => ∃ W S as ds, Wd X.K W H S ∧ RaA X.K W vs as ∧ bltF b as S = some (.d (.list ds)) ∧ KtN X.K W S ds Q) (rdA X.K Φ Γ es) σ H Q := fun σ H Q ⟨W, env, S, a, S', wd, re, e, q⟩ => by
    simp only [ev] at e
    split at e
    · cases e
    · rename_i as S1 e1
      cases e2 : bltF b as S1 with
      | none =>
        rw [e2] at e
        cases e
      | some c =>
        rw [e2] at e
        cases e
        exact ⟨W, env, S, as, _, wd, re, e1, fun W1 vs H1 le1 wd1 ra1 => ⟨W1, _, as, _, wd1, ra1, e2, fun W' p vs H' l => q W' p vs H' (le1.trans l)⟩⟩
  refine PE_imp ?_ key
  rcases hb with rfl | rfl
  · exact pe_callTy hc (isGl_ok h2) (at_.blt _ (by decide)) (by decide +kernel) hp (by decide) (by decide) st bk
  · exact pe_callB hc (isGl_ok h2) (at_.blt _ (by decide)) (by decide +kernel) hp (by decide) (by decide) st bk

/-! ### isinstance -/
omit at_ in
theorem clsV_of (t : Ty) : ClsV (.ty t.nm) (.type t.nm) := by cases t <;> exact .ty _
omit at_ in
theorem paired_cls : ∀ ts : List Ty, Paired ClsV (ts.map fun t => V.ty t.nm) (ts.map fun t => Value.type t.nm)
  | [] => .nil
  | t :: ts => .cons (clsV_of t) (paired_cls ts)
theorem ty_pe {t : Ty} {e : Expr} (h : tyNm X.env.scope t e = true) : PE X e (tC (.ty t.nm)) := by
  unfold tyNm at h
  split at h
  · simp only [Bool.and_eq_true, decide_eq_true_eq] at h
    obtain ⟨rfl, h⟩ := h
    have g := isGl_ok h
    cases t <;> exact pe_bltn g (at_.blt _ (by decide)) (by decide +kernel) rfl (by decide) (by decide)
  · cases h
theorem tys_pa : ∀ {ts : List Ty} {es : List Expr}, tyNms X.env.scope ts es = true → PA X es (fun _ H Q => Q (ts.map fun t => V.ty t.nm) H)
  | [], [], _ => PA_imp pa_nil fun _ _ _ h => h
  | [], _ :: _, h => by cases h
  | _ :: _, [], h => by cases h
  | t :: ts, e :: es, h => by
    simp only [tyNms, Bool.and_eq_true] at h
    have st : starEach (e :: es) X.env = (false, eval e X.env) :: starEach es X.env := by
      have := h.1
      unfold tyNm at this
      split at this
      · rfl
      · cases this
    exact PA_imp (pa_cons (ty_pe at_ h.1) (tys_pa h.2) st) fun σ H Q q => q
theorem c_isi1 {a : Ex} {t : Ty} {y z : Expr} {p pos : Pos} (h2 : isGl X.env.scope "isinstance" = true) (s1 : notSt y = true) (ha : PE X y (rdE X.K Φ Γ a)) (ht : tyNm X.env.scope t z = true) : PE X (.Call (.Name "isinstance" p) [y, z] [] pos) (rdE X.K Φ Γ (.isi a [t])) := by
  have s2 : notSt z = true := by
    unfold tyNm at ht
    split at ht
    · rfl
    · cases ht
  have pa := pa_cons ha (pa_cons (ty_pe at_ ht) pa_nil (star_of s2 _ _)) (star_of s1 _ _)
  refine PE_imp (pe_callB call_isi (isGl_ok h2) (at_.blt _ (by decide)) (by decide +kernel) pa (by decide) (by decide) (star_of s1 _ _) (back_of _ _ (by simp [allSt, s2]))) fun σ H Q ⟨W, env, S, a', S', wd, re, e, q⟩ => ?_
  simp only [ev] at e
  split at e
  · cases e
  · rename_i x S1 e1
    split at e
    · cases e
    · cases e
    · rename_i _ d hnd e2
      cases e
      refine ⟨W, env, S, x, _, wd, re, e1, fun W1 v1 H1 le1 wd1 r1 => ?_⟩
      refine ⟨v1, .ty t.nm, .type (tyOf d), .type t.nm, typeOk d t, rfl, clsV_of t, ty_x wd1.sub (wd1.deref r1 e2) (fun z hz => hnd z (by rw [hz])), kit_tab d t, ?_⟩
      have := q W1 (.bl (typeOk d t)) H1 le1 wd1 (by
        show Rp X.K W1.F _ (.bool ([t].any fun t => typeOk d t))
        rw [show ([t].any fun t => typeOk d t) = typeOk d t by simp]
        exact .bl _)
      exact this
theorem c_isiT {a : Ex} {ts : List Ty} {y : Expr} {zs : List Expr} {k : Nat} {pz p pos : Pos} (h2 : isGl X.env.scope "isinstance" = true) (s1 : notSt y = true) (ha : PE X y (rdE X.K Φ Γ a)) (ht : tyNms X.env.scope ts zs = true) (hl : ts.length ≤ 1000) : PE X (.Call (.Name "isinstance" p) [y, .Tuple zs k pz] [] pos) (rdE X.K Φ Γ (.isi a ts)) := by
  have pa := pa_cons ha (pa_cons (pe_tup (x1 := k) (pos := pz) (tys_pa at_ ht)) pa_nil) (star_of s1 _ _)
  refine PE_imp (pe_callB call_isiT (isGl_ok h2) (at_.blt _ (by decide)) (by decide +kernel) pa (by decide) (by decide) (star_of s1 _ _) (back_of _ _ rfl)) fun σ H Q ⟨W, env, S, a', S', wd, re, e, q⟩ => ?_
  simp only [ev] at e
  split at e
  · cases e
  · rename_i x S1 e1
    split at e
    · cases e
    · cases e
    · rename_i _ d hnd e2
      cases e
      refine ⟨W, env, S, x, _, wd, re, e1, fun W1 v1 H1 le1 wd1 r1 => ⟨by rw [List.length_map]; exact Nat.le_of_lt (small1000 hl), fun tp hn => ?_⟩⟩
      have wd2 := wd1.junk (u := .tup (ts.map fun t => V.ty t.nm)) hn
      exact ⟨v1, tp, ts.map fun t => V.ty t.nm, .type (tyOf d), ts.map fun t => Value.type t.nm, _, rfl, upd_same, paired_cls ts, ty_x wd2.sub (wd2.deref r1 e2) (fun z hz => hnd z (by rw [hz])), kit_any d ts, q W1 _ _ le1 wd2 (.bl _)⟩
end
end PV

/-! PV14: the soundness of expressions: all of them. -/
namespace PV
open PySem PySem.Spec PyProof.Rows L2
section
variable {nm : Nm} {Φ : List Fs} {Γ : List PyData} {lv : Nat} {X : Cx} (at_ : At nm Φ Γ lv X)
include at_
omit at_ in
theorem a_nil : PA X [] (rdA X.K Φ Γ .nil) := by
  refine PA_imp pa_nil fun σ H Q ⟨W, env, S, as, S', wd, re, e, q⟩ => ?_
  simp only [evs] at e
  cases e
  exact q W [] H (.refl W) wd .nil
omit at_ in
theorem a_cons {e : Ex} {es : Exs} {x : Expr} {xs : List Expr} (hs : notSt x = true) (h1 : PE X x (rdE X.K Φ Γ e)) (h2 : PA X xs (rdA X.K Φ Γ es)) : PA X (x :: xs) (rdA X.K Φ Γ (.cons e es)) := by
  refine PA_imp (pa_cons h1 h2 (star_of hs _ _)) fun σ H Q ⟨W, env, S, as, S', wd, re, e, q⟩ => ?_
  simp only [evs] at e
  split at e
  · cases e
  · rename_i a S1 e1
    split at e
    · cases e
    · rename_i as' S2 e2
      cases e
      exact ⟨W, env, S, a, S1, wd, re, e1, fun W1 v1 H1 le1 wd1 r1 => ⟨W1, env, S1, as', _, wd1, re.le le1, e2, fun W2 vs H2 le2 wd2 r2 => q W2 _ H2 (le1.trans le2) wd2 (.cons (r1.le le2) r2)⟩⟩
omit at_ in
theorem and_one {e : Ex} {x : Expr} {pos : Pos} (h : PE X x (rdE X.K Φ Γ e)) : PE X (.BoolOp .And [x] pos) (rdAnd X.K Φ Γ (.cons e .nil)) := by
  refine PE_imp (pe_one h) fun σ H Q ⟨W, env, S, a, S', wd, re, e, q⟩ => ?_
  simp only [evAnd, Exs.isNil, if_true] at e
  split at e
  · cases e
  · rename_i e1
    cases e
    exact ⟨W, env, S, _, _, wd, re, e1, q⟩
omit at_ in
theorem and_cons {e e' : Ex} {es : Exs} {x x' : Expr} {xs : List Expr} {pos : Pos} (h : PE X x (rdE X.K Φ Γ e)) (h2 : PE X (.BoolOp .And (x' :: xs) pos) (rdAnd X.K Φ Γ (.cons e' es))) : PE X (.BoolOp .And (x :: x' :: xs) pos) (rdAnd X.K Φ Γ (.cons e (.cons e' es))) := by
  refine PE_imp (pe_andT h h2) fun σ H Q ⟨W, env, S, a, S', wd, re, e, q⟩ => ?_
  rw [evAnd] at e
  simp only [Exs.isNil, Bool.false_eq_true, if_false] at e
  split at e
  · cases e
  · rename_i b S1 e1
    refine ⟨W, env, S, b, S1, wd, re, e1, fun W1 v1 H1 le1 wd1 r1 => ?_⟩
    split at e
    · cases e
    · rename_i e2
      cases e
      exact ⟨false, tru_V wd1 r1 e2, iteF (q W1 v1 H1 le1 wd1 r1)⟩
    · rename_i e2
      exact ⟨true, tru_V wd1 r1 e2, iteT ⟨W1, env, S1, a, S', wd1, re.le le1, e, fun W' v H' l => q W' v H' (le1.trans l)⟩⟩
omit at_ in
theorem or_one {e : Ex} {x : Expr} {pos : Pos} (h : PE X x (rdE X.K Φ Γ e)) : PE X (.BoolOp .Or [x] pos) (rdOr X.K Φ Γ (.cons e .nil)) := by
  refine PE_imp (pe_one h) fun σ H Q ⟨W, env, S, a, S', wd, re, e, q⟩ => ?_
  simp only [evOr, Exs.isNil, if_true] at e
  split at e
  · cases e
  · rename_i e1
    cases e
    exact ⟨W, env, S, _, _, wd, re, e1, q⟩
omit at_ in
theorem or_cons {e e' : Ex} {es : Exs} {x x' : Expr} {xs : List Expr} {pos : Pos} (h : PE X x (rdE X.K Φ Γ e)) (h2 : PE X (.BoolOp .Or (x' :: xs) pos) (rdOr X.K Φ Γ (.cons e' es))) : PE X (.BoolOp .Or (x :: x' :: xs) pos) (rdOr X.K Φ Γ (.cons e (.cons e' es))) := by
  refine PE_imp (pe_orT h h2) fun σ H Q ⟨W, env, S, a, S', wd, re, e, q⟩ => ?_
  rw [evOr] at e
  simp only [Exs.isNil, Bool.false_eq_true, if_false] at e
  split at e
  · cases e
  · rename_i b S1 e1
    refine ⟨W, env, S, b, S1, wd, re, e1, fun W1 v1 H1 le1 wd1 r1 => ?_⟩
    split at e
    · cases e
    · rename_i e2
      cases e
      exact ⟨true, tru_V wd1 r1 e2, iteT (q W1 v1 H1 le1 wd1 r1)⟩
    · rename_i e2
      exact ⟨false, tru_V wd1 r1 e2, iteF ⟨W1, env, S1, a, S', wd1, re.le le1, e, fun W' v H' l => q W' v H' (le1.trans l)⟩⟩
/-! tests -/
omit at_ in
theorem t_val {e : Ex} {x : Expr} (h : PE X x (rdE X.K Φ Γ e)) (hp : ∀ whole, isTrue x X.env whole = (do let v ← whole; standAt x.pos; holding [v] (truthy v))) : PT X x (rdT X.K Φ Γ e) := by
  refine PT_imp (pt_truth h hp) fun σ H Q ⟨W, env, S, a, S', k, wd, re, e, et, q⟩ => ?_
  exact ⟨W, env, S, a, S', wd, re, e, fun W1 v1 H1 le1 wd1 r1 => ⟨k, tru_V wd1 r1 et, q W1 H1 le1 wd1⟩⟩
omit at_ in
theorem t_and_one {e : Ex} {x : Expr} {pos : Pos} (h : PT X x (rdT X.K Φ Γ e)) : PW X (.BoolOp .And [x] pos) (rdTAnd X.K Φ Γ (.cons e .nil)) := by
  refine PW_imp (pw_and1 h) fun σ H Q ⟨W, env, S, a, S', k, wd, re, e, et, q⟩ => ?_
  simp only [evAnd, Exs.isNil, if_true] at e
  split at e
  · cases e
  · rename_i e1
    cases e
    exact ⟨W, env, S, _, _, k, wd, re, e1, et, q⟩
omit at_ in
theorem t_and_cons {e e' : Ex} {es : Exs} {x x' : Expr} {xs : List Expr} {pos : Pos} (h : PT X x (rdT X.K Φ Γ e)) (h2 : PW X (.BoolOp .And (x' :: xs) pos) (rdTAnd X.K Φ Γ (.cons e' es))) : PW X (.BoolOp .And (x :: x' :: xs) pos) (rdTAnd X.K Φ Γ (.cons e (.cons e' es))) := by
  refine PW_imp (pw_and h h2) fun σ H Q ⟨W, env, S, a, S', k, wd, re, e, et, q⟩ => ?_
  rw [evAnd] at e
  simp only [Exs.isNil, Bool.false_eq_true, if_false] at e
  split at e
  · cases e
  · rename_i b S1 e1
    split at e
    · cases e
    · rename_i e2
      cases e
      rw [e2] at et
      cases et
      exact ⟨W, env, S, _, _, false, wd, re, e1, e2, fun W1 H1 le1 wd1 => iteF (q W1 H1 le1 wd1)⟩
    · rename_i e2
      exact ⟨W, env, S, b, S1, true, wd, re, e1, e2, fun W1 H1 le1 wd1 => iteT ⟨W1, env, S1, a, S', k, wd1, re.le le1, e, et, fun W' H' l => q W' H' (le1.trans l)⟩⟩
omit at_ in
theorem t_or_one {e : Ex} {x : Expr} {pos : Pos} (h : PT X x (rdT X.K Φ Γ e)) : PW X (.BoolOp .Or [x] pos) (rdTOr X.K Φ Γ (.cons e .nil)) := by
  refine PW_imp (pw_or1 h) fun σ H Q ⟨W, env, S, a, S', k, wd, re, e, et, q⟩ => ?_
  simp only [evOr, Exs.isNil, if_true] at e
  split at e
  · cases e
  · rename_i e1
    cases e
    exact ⟨W, env, S, _, _, k, wd, re, e1, et, q⟩
omit at_ in
theorem t_or_cons {e e' : Ex} {es : Exs} {x x' : Expr} {xs : List Expr} {pos : Pos} (h : PT X x (rdT X.K Φ Γ e)) (h2 : PW X (.BoolOp .Or (x' :: xs) pos) (rdTOr X.K Φ Γ (.cons e' es))) : PW X (.BoolOp .Or (x :: x' :: xs) pos) (rdTOr X.K Φ Γ (.cons e (.cons e' es))) := by
  refine PW_imp (pw_or h h2) fun σ H Q ⟨W, env, S, a, S', k, wd, re, e, et, q⟩ => ?_
  rw [evOr] at e
  simp only [Exs.isNil, Bool.false_eq_true, if_false] at e
  split at e
  · cases e
  · rename_i b S1 e1
    split at e
    · cases e
    · rename_i e2
      cases e
      rw [e2] at et
      cases et
      exact ⟨W, env, S, _, _, true, wd, re, e1, e2, fun W1 H1 le1 wd1 => iteT (q W1 H1 le1 wd1)⟩
    · rename_i e2
      exact ⟨W, env, S, b, S1, false, wd, re, e1, e2, fun W1 H1 le1 wd1 => iteF ⟨W1, env, S1, a, S', k, wd1, re.le le1, e, et, fun W' H' l => q W' H' (le1.trans l)⟩⟩
omit at_ in
theorem t_ite {t a b : Ex} {z x y : Expr} {pos : Pos} (hz : PT X z (rdT X.K Φ Γ t)) (hx : PT X x (rdT X.K Φ Γ a)) (hy : PT X y (rdT X.K Φ Γ b)) : PT X (.IfExp z x y pos) (rdT X.K Φ Γ (.ite t a b)) := by
  refine ⟨fun pins s σ H Q I ⟨W, env, S, a', S', k, wd, re, e, et, q⟩ => ?_⟩
  simp only [ev] at e
  split at e
  · cases e
  · rename_i c S1 e1
    show wpAny _ _ (isTrue z X.env (eval z X.env) >>= _) _ _ s
    split at e
    · cases e
    · rename_i e2
      refine wpAny_bind (thn (hz.run pins s σ H (fun b H1 => b = true ∧ rdT X.K Φ Γ _ σ H1 Q) I ⟨W, env, S, c, S1, true, wd, re, e1, e2, fun W1 H1 le1 wd1 => ⟨rfl, W1, env, S1, a', S', k, wd1, re.le le1, e, et, fun W' H' l => q W' H' (le1.trans l)⟩⟩) fun d s1 ⟨H1, I1, hd, q1⟩ => ?_)
      subst hd
      exact hx.run pins s1 σ H1 Q I1 q1
    · rename_i e2
      refine wpAny_bind (thn (hz.run pins s σ H (fun b H1 => b = false ∧ rdT X.K Φ Γ _ σ H1 Q) I ⟨W, env, S, c, S1, false, wd, re, e1, e2, fun W1 H1 le1 wd1 => ⟨rfl, W1, env, S1, a', S', k, wd1, re.le le1, e, et, fun W' H' l => q W' H' (le1.trans l)⟩⟩) fun d s1 ⟨H1, I1, hd, q1⟩ => ?_)
      subst hd
      exact hy.run pins s1 σ H1 Q I1 q1
/-! parts of slices -/
omit at_ in
theorem o_nil : PO X none (rdO X.K Φ Γ .nil) := by
  refine ⟨fun pins s σ H Q I ⟨W, env, S, o, S', wd, re, e, q⟩ => ?_⟩
  simp only [evOpt] at e
  cases e
  exact po_none.run pins s σ H Q I (q W H (.refl W) wd)
omit at_ in
theorem o_one {e : Ex} {x : Expr} (h : PE X x (rdE X.K Φ Γ e)) : PO X (some x) (rdO X.K Φ Γ (.cons e .nil)) := by
  refine ⟨fun pins s σ H Q I ⟨W, env, S, o, S', wd, re, e, q⟩ => ?_⟩
  simp only [evOpt] at e
  split at e
  · rename_i i S1 e1
    cases e
    refine (po_some h).run pins s σ H Q I ⟨W, env, S, _, _, wd, re, e1, fun W1 v1 H1 le1 wd1 r1 => ?_⟩
    cases r1
    exact ⟨i, rfl, q W1 H1 le1 wd1⟩
  · cases e
/-! what is walked -/
theorem i_seq {e : Ex} {tg x : Expr} (h : PE X x (rdE X.K Φ Γ e)) : PI X tg x (rdI X.K Φ Γ (.seq e)) := by
  refine PI_imp (pi_seq h) fun σ H R ⟨W, env, S, xs, S', wd, re, e, q⟩ => ?_
  simp only [evI] at e
  split at e
  · cases e
  · rename_i a S1 e1
    refine ⟨W, env, S, a, S1, wd, re, e1, fun W1 v1 H1 le1 wd1 r1 => ?_⟩
    unfold seqF at e
    split at e
    · cases e
      cases r1 with
      | lst g r => exact .inl ⟨_, _, rfl, .inl (.inl (wd1.sub.ex g rfl)), fun hz => q W1 _ H1 le1 wd1 (wk_list g r hz)⟩
    · cases e
      cases r1 with
      | tup g r => exact .inr (.inl ⟨_, _, rfl, wd1.sub.seqT g, fun hz => q W1 _ H1 le1 wd1 (wk_tup g r hz)⟩)
    · split at e
      · rename_i hz
        cases e
        cases r1
        exact .inr (.inr ⟨_, rfl, q W1 _ H1 le1 wd1 (wk_str hz)⟩)
      · cases e
    · rename_i k
      split at e
      · rename_i ys fz ek
        cases e
        obtain ⟨p, g1, rfl⟩ := r1
        obtain ⟨vs, W2, le2, eρ, wd2, g2, g3⟩ := wd1.freeze g1 ek
        exact .inl ⟨p, vs, rfl, .inl (.inl (wd2.sub.ex g2 rfl)), fun hz => q W2 _ H1 (le1.trans le2) wd2 (wk_list g2 g3 hz)⟩
      · cases e
    · cases e
theorem i_rng {a : Ex} {y tg : Expr} {p pos : Pos} (h2 : isGl X.env.scope "range" = true) (s1 : notSt y = true) (h : PE X y (rdE X.K Φ Γ a)) : PI X tg (.Call (.Name "range" p) [y] [] pos) (rdI X.K Φ Γ (.rng a)) := by
  refine PI_imp (pi_range1 (isGl_ok h2) (at_.blt _ (by decide)) (a_cons s1 h a_nil) (star_of s1 _ _)) fun σ H R ⟨W, env, S, xs, S', wd, re, e, q⟩ => ?_
  simp only [evI] at e
  split at e
  · rename_i j S1 e1
    unfold rngF at e
    split at e
    · rename_i hb
      cases e
      refine ⟨W, env, S, [.d (.int j)], S', wd, re, by simp only [evs, e1], fun W1 vs H1 le1 wd1 r1 => ?_⟩
      cases r1 with
      | cons r t =>
        cases t
        cases r
        refine ⟨j, rfl, hb.1.2.2.1, hb.1.2.2.2, ?_⟩
        have := q W1 _ H1 le1 wd1 (wk_rng (lo := 0) hb.2)
        simpa using this
    · cases e
  · cases e
theorem i_rng2 {a b : Ex} {y z tg : Expr} {p pos : Pos} (h2 : isGl X.env.scope "range" = true) (s1 : notSt y = true) (s2 : notSt z = true) (h : PE X y (rdE X.K Φ Γ a)) (h' : PE X z (rdE X.K Φ Γ b)) : PI X tg (.Call (.Name "range" p) [y, z] [] pos) (rdI X.K Φ Γ (.rng2 a b)) := by
  refine PI_imp (pi_range2 (isGl_ok h2) (at_.blt _ (by decide)) (a_cons s1 h (a_cons s2 h' a_nil)) (by rw [star_of s1, star_of s2]; rfl) (star_of s2 _ _)) fun σ H R ⟨W, env, S, xs, S', wd, re, e, q⟩ => ?_
  simp only [evI] at e
  split at e
  · rename_i i S1 e1
    split at e
    · rename_i j S2 e2
      unfold rngF at e
      split at e
      · rename_i hb
        cases e
        refine ⟨W, env, S, [.d (.int i), .d (.int j)], S', wd, re, by simp only [evs, e1, e2], fun W1 vs H1 le1 wd1 r1 => ?_⟩
        cases r1 with
        | cons r t =>
          cases t with
          | cons r' t =>
            cases t
            cases r
            cases r'
            exact ⟨i, j, rfl, hb.1, q W1 _ H1 le1 wd1 (wk_rng hb.2)⟩
      · cases e
    · cases e
  · cases e
theorem i_enm {a : Ex} {y : Expr} {elts : List Expr} {kk : Nat} {tpos p pos : Pos} (h2 : isGl X.env.scope "enumerate" = true) (s1 : notSt y = true) (h : PE X y (rdE X.K Φ Γ a)) : PI X (.Tuple elts kk tpos) (.Call (.Name "enumerate" p) [y] [] pos) (rdI X.K Φ Γ (.enm a)) := by
  refine PI_imp (pi_enumA (isGl_ok h2) (at_.blt _ (by decide)) (a_cons s1 h a_nil) (star_of s1 _ _)) fun σ H R ⟨W, env, S, xs, S', wd, re, e, q⟩ => ?_
  simp only [evI] at e
  split at e
  · rename_i ds S1 e1
    cases e
    refine ⟨W, env, S, [.d (.list ds)], S', wd, re, by simp only [evs, e1], fun W1 vs H1 le1 wd1 r1 => ?_⟩
    cases r1 with
    | cons r t =>
      cases t
      cases r with
      | lst g r => exact ⟨_, _, rfl, .inl ⟨.inl (.inl (wd1.sub.ex g rfl)), fun hz => q W1 _ H1 le1 wd1 (wk_enmL g r hz)⟩⟩
  · rename_i ds S1 e1
    cases e
    refine ⟨W, env, S, [.d (.tuple ds)], S', wd, re, by simp only [evs, e1], fun W1 vs H1 le1 wd1 r1 => ?_⟩
    cases r1 with
    | cons r t =>
      cases t
      cases r with
      | tup g r => exact ⟨_, _, rfl, .inr ⟨wd1.sub.seqT g, fun hz => q W1 _ H1 le1 wd1 (wk_enmT g r hz)⟩⟩
  · cases e
theorem i_zip {a b : Ex} {y z : Expr} {elts : List Expr} {kk : Nat} {tpos p pos : Pos} (h2 : isGl X.env.scope "zip" = true) (s1 : notSt y = true) (s2 : notSt z = true) (h : PE X y (rdE X.K Φ Γ a)) (h' : PE X z (rdE X.K Φ Γ b)) : PI X (.Tuple elts kk tpos) (.Call (.Name "zip" p) [y, z] [] pos) (rdI X.K Φ Γ (.zip a b)) := by
  refine PI_imp (RZ.pi_zipA (isGl_ok h2) (at_.blt _ (by decide)) (a_cons s1 h (a_cons s2 h' a_nil)) (star_of s1 _ _) (back_of _ _ (by simp [allSt, s2]))) fun σ H R ⟨W, env, S, xs, S', wd, re, e, q⟩ => ?_
  simp only [evI] at e
  split at e
  · rename_i ds S1 e1
    split at e
    · rename_i es S2 e2
      split at e
      · rename_i hz
        cases e
        refine ⟨W, env, S, [.d (.list ds), .d (.list es)], S', wd, re, by simp only [evs, e1, e2], fun W1 vs H1 le1 wd1 r1 => ?_⟩
        cases r1 with
        | cons r t =>
          cases t with
          | cons r' t =>
            cases t
            cases r with
            | lst g r =>
              cases r' with
              | lst g' r' => exact ⟨_, _, _, _, rfl, .inl ⟨.inl (.inl (wd1.sub.ex g rfl)), .inl (.inl (wd1.sub.ex g' rfl)), q W1 _ H1 le1 wd1 (wk_zipL g r g' r' hz)⟩⟩
      · cases e
    · cases e
  · rename_i ds S1 e1
    split at e
    · rename_i es S2 e2
      split at e
      · rename_i hz
        cases e
        refine ⟨W, env, S, [.d (.tuple ds), .d (.tuple es)], S', wd, re, by simp only [evs, e1, e2], fun W1 vs H1 le1 wd1 r1 => ?_⟩
        cases r1 with
        | cons r t =>
          cases t with
          | cons r' t =>
            cases t
            cases r with
            | tup g r =>
              cases r' with
              | tup g' r' => exact ⟨_, _, _, _, rfl, .inr ⟨wd1.sub.seqT g, wd1.sub.seqT g', q W1 _ H1 le1 wd1 (wk_zipT g r g' r' hz)⟩⟩
      · cases e
    · cases e
  · cases e
/-! targets -/
theorem g_nm {i : Nat} {x : Str} {pos : Pos} (h1 : X.N[i]? = some x) (h2 : Loc X.env.scope x) (h3 : X.fn x = true ∨ X.env.scope.names.lookup x = some .local) : PG X (.Name x pos) (rdG X.K Φ Γ (.nm i)) := by
  refine PG_imp (pg_name at_.nd h1 h2 h3) fun v σ H Q ⟨W, a, env, S, env', S', wd, re, ra, e, q⟩ => ?_
  simp only [bnd] at e
  cases e
  exact q W _ H (.refl W) wd (re.set i ra) (wipe_set _ _ _)
omit at_ in
theorem gs_nil : PGs X [] (rdGs X.K Φ Γ .nil) := by
  refine PGs_imp pgs_nil fun vs σ H Q ⟨W, as, env, S, env', S', wd, re, ra, e, q⟩ => ?_
  simp only [bnds] at e
  split at e
  · cases e
    cases ra
    exact ⟨rfl, q W σ H (.refl W) wd re rfl⟩
  · cases e
omit at_ in
theorem gs_cons {t : Tg} {ts : Tgs} {x : Expr} {xs : List Expr} (hs : notSt x = true) (h1 : PG X x (rdG X.K Φ Γ t)) (h2 : PGs X xs (rdGs X.K Φ Γ ts)) : PGs X (x :: xs) (rdGs X.K Φ Γ (.cons t ts)) := by
  have st : (assignEach (x :: xs) X.env).map (·.2) = assign x X.env :: (assignEach xs X.env).map (·.2) := by
    cases x <;> first | rfl | cases hs
  refine PGs_imp (pgs_cons h1 h2 st) fun vs σ H Q ⟨W, as, env, S, env', S', wd, re, ra, e, q⟩ => ?_
  simp only [bnds] at e
  split at e
  · cases e
  · split at e
    · cases e
    · rename_i a as' _ env1 S1 e1
      cases ra with
      | cons r rr =>
        refine ⟨_, _, rfl, W, a, env, S, env1, S1, wd, re, r, e1, fun W1 σ1 H1 le1 wd1 re1 w1 => ?_⟩
        refine ⟨W1, as', env1, S1, env', S', wd1, re1, rr.le le1, e, fun W2 σ2 H2 le2 wd2 re2 w2 => ?_⟩
        refine q W2 σ2 H2 (le1.trans le2) wd2 re2 ?_
        show wipe σ2 (t.slots ++ ts.slots) = wipe σ (t.slots ++ ts.slots)
        rw [wipe_app, wipe_comm, w2, wipe_comm, w1, wipe_app]
omit at_ in
theorem assign_len : ∀ {xs : List Expr} {ts : Tgs} {sc : Scope} {ow : Str → Bool} {big : Bool} {env : Env}, agTs nm X.N sc ow big ts xs = true → (assignEach xs env).length = ts.len ∧ (assignEach xs env).findIdx? (·.1) = none
  | [], .nil, _, _, _, _, _ => ⟨rfl, rfl⟩
  | [], .cons _ _, _, _, _, _, h => by simp [agTs] at h
  | _ :: _, .nil, _, _, _, _, h => by simp [agTs] at h
  | x :: xs, .cons t ts, sc, ow, big, env, h => by
    simp only [agTs, Bool.and_eq_true] at h
    have st : assignEach (x :: xs) env = (false, assign x env) :: assignEach xs env := by
      cases x <;> first | rfl | (simp [notSt] at h)
    obtain ⟨h1, h2⟩ := assign_len (env := env) h.2
    rw [st]
    refine ⟨by rw [List.length_cons, h1]; rfl, ?_⟩
    rw [List.findIdx?_cons]
    simp [h2]
theorem g_tp {ts : Tgs} {xs : List Expr} {k : Nat} {pos : Pos} {sc : Scope} {ow : Str → Bool} {big : Bool} (ha : agTs nm X.N sc ow big ts xs = true) (h : PGs X xs (rdGs X.K Φ Γ ts)) : PG X (.Tuple xs k pos) (rdG X.K Φ Γ (.tp ts)) := by
  obtain ⟨l1, l2⟩ := assign_len (env := X.env) ha
  refine PG_imp (pg_tup at_.calm h l1 l2) fun v σ H Q ⟨W, a, env, S, env', S', wd, re, ra, e, q⟩ => ?_
  simp only [bnd] at e
  split at e
  · rename_i xs
    split at e
    · rename_i hl
      cases ra with
      | tup g r =>
        refine ⟨_, _, rfl, wd.sub.seqT g, by rw [r.length]; exact hl, W, xs.map .d, env, S, env', S', wd, re, ?_, e, q⟩
        clear e hl g
        have go : ∀ {vs : List V} {ds : List PyData}, RpA X.K W.F vs ds → RaA X.K W vs (ds.map .d) := by
          intro vs ds
          induction ds generalizing vs with
          | nil =>
            intro r
            cases r
            exact .nil
          | cons d ds ih =>
            intro r
            cases r with
            | cons q r => exact .cons q (ih r)
        exact go r
    · cases e
  · split at e
    · rename_i x y hl
      obtain ⟨p, vx, vy, rfl, g, r1, r2⟩ := ra
      exact ⟨p, [vx, vy], rfl, wd.sub.seqT g, hl.symm, W, [x, y], env, S, env', S', wd, re, .cons r1 (.cons r2 .nil), e, q⟩
    · cases e
  · cases e
omit at_ in
theorem set_ok : PSet X (fun o i v H Q => ∃ W S a b c S', Wd X.K W H S ∧ Ra X.K W o a ∧ Ra X.K W i b ∧ Ra X.K W v c ∧ setF a b c S = some S' ∧ ∀ W' H', Le W W' → Wd X.K W' H' S' → Q H') := by
  intro pins s σ H o i v ov iv u Q I ro ri rv ⟨W, S, a, b, c, S', wd, ra, rb, rc, e, q⟩
  unfold setF at e
  split at e
  · rename_i k
    split at e
    · rename_i xs ek
      split at e
      · rename_i j
        split at e
        · rename_i x S1 ef
          split at e
          · rename_i n fz ei ek2
            cases e
            obtain ⟨p, g1, rfl⟩ := ra
            cases rb
            obtain ⟨W1, le1, eρ, wd1, rx⟩ := wd.frz rc ef
            have gk : W1.ρ[k]? = some p := by
              rw [eρ]
              exact g1
            obtain ⟨vs, h1, h2, h3⟩ := wd.ob k p _ g1 ek
            obtain ⟨vs', h1', h2', h3'⟩ := wd1.ob k p _ gk ek2
            rw [h1] at h1'
            cases h1'
            have nF : W1.F p = none := by simpa using h3'
            refine set_list pins s σ H _ _ v ov iv u Q I ro ri rv ⟨p, vs, j, n, rfl, rfl, h1, by rw [h2.length]; exact ei, ?_⟩
            refine q W1 _ le1 (wd1.write gk nF ⟨vs.set n v, upd_same, (h2.le le1.F).set rx n, by simpa using nF⟩)
          · cases e
        · cases e
      · cases e
    · cases e
  · cases e
theorem g_sub {o i : Ex} {x y : Expr} {pos : Pos} (hs : notSl y = true) (h1 : PE X x (rdE X.K Φ Γ o)) (h2 : PE X y (rdE X.K Φ Γ i)) : PG X (.Subscript x y pos) (rdG X.K Φ Γ (.sub o i)) := by
  refine PG_imp (pg_sub h1 h2 set_ok (by intro v; cases y <;> first | rfl | cases hs)) fun v σ H Q ⟨W, a, env, S, env', S', wd, re, ra, e, q⟩ => ?_
  simp only [bnd] at e
  split at e
  · cases e
  · rename_i x' S1 e1
    split at e
    · cases e
    · rename_i y' S2 e2
      cases e3 : setF x' y' a S2 with
      | none =>
        rw [e3] at e
        cases e
      | some S3 =>
        rw [e3] at e
        cases e
        exact ⟨W, env, S, x', S1, wd, re, e1, fun W1 v1 H1 le1 wd1 r1 => ⟨W1, env, S1, y', S2, wd1, re.le le1, e2, fun W2 v2 H2 le2 wd2 r2 => ⟨W2, S2, x', y', a, _, wd2, r1.le le2, r2, (ra.le le1).le le2, e3, fun W3 H3 le3 wd3 =>
          q W3 σ H3 ((le1.trans le2).trans le3) wd3 (((re.le le1).le le2).le le3) rfl⟩⟩⟩
theorem rpA_rg {K : PySem.W.Frag} {F : Hp} (n : Int) : RpA K F (rgV 0 n) (rngD 0 (n - 0).toNat) := by
  have go : ∀ (l : List Nat), RpA K F (l.map fun i => V.int (0 + (i : Nat))) (l.map fun k => PyData.int (0 + (k : Nat))) := fun l => by
    induction l with
    | nil => exact .nil
    | cons x l ih => exact .cons (.int _) ih
  exact go _
theorem c_lrgN {a : Ex} {z : Expr} {p1 p2 p3 pos : Pos} (h1 : isGl X.env.scope "list" = true) (h2 : isGl X.env.scope "range" = true) (hs : notSt z = true) (ha : PE X z (rdE X.K Φ Γ a)) : PE X (.Call (.Name "list" p1) [.Call (.Name "range" p2) [z] [] p3] [] pos) (rdN X.K Φ Γ (.lrg a)) := by
  refine PE_imp (pe_listRg at_.calm (isGl_ok h1) (at_.blt _ (by decide)) (prg_1 (isGl_ok h2) (at_.blt _ (by decide)) ha (star_of hs _ _)) rfl) fun σ H Q ⟨W, env, S, ds, S', wd, re, e, q⟩ => ?_
  simp only [ev] at e
  split at e
  · rename_i j S1 e1
    unfold rngF at e
    split at e
    · rename_i hb
      cases e
      refine ⟨W, env, S, _, S', wd, re, e1, fun W1 v1 H1 le1 wd1 r1 => ?_⟩
      cases r1
      refine ⟨j, rfl, ⟨hb.1.1, hb.1.2.1, hb.1.2.2.1, hb.1.2.2.2, hb.2⟩, fun p hn => ?_⟩
      exact q W1 p _ _ le1 (wd1.junk hn) (wd1.freeF hn) (wd1.notin hn) (wd1.freeG hn) upd_same (rpA_rg at_ j)
    · cases e
  · cases e
end
end PV

/-! PV15: every term that agrees with the text is sound. -/
namespace PV
open PySem PySem.Spec PyProof.Rows L2
def isNew : Ex → Bool
  | .lst _ => true
  | .comp _ _ _ _ => true
  | .lrg _ => true
  | .blt b _ => b == .list || b == .sorted
  | _ => false
theorem Lx.get {W W' : Wo} (h : Lx W W') {k : Nat} {a : Addr} (e : W.ρ[k]? = some a) : W'.ρ[k]? = some a := Le.get (W := W) (W' := ⟨W'.F, W'.ρ, W.G⟩) ⟨h.F, h.ρ, rfl⟩ e
theorem Ra.lx {K : PySem.W.Frag} {W W' : Wo} (h : Lx W W') : ∀ {a : A} {v : V}, Ra K W v a → Ra K W' v a
  | .d _, _, r => Rp.le h.F r
  | .obj _, _, ⟨a, e, r⟩ => ⟨a, h.get e, r⟩
  | .pr _ _, _, ⟨p, vx, vy, e, q, r1, r2⟩ => ⟨p, vx, vy, e, h.F.seqT q, Ra.lx h r1, Ra.lx h r2⟩
  | .seq _, _, ⟨p, e, q⟩ => ⟨p, e, h.F.seqL q⟩
theorem Re.lx {K : PySem.W.Frag} {W W' : Wo} {σ : L2.St} {env : En} (h : Re K W σ env) (l : Lx W W') : Re K W' σ env := ⟨h.len, fun i a e => let ⟨v, e1, r⟩ := h.at_ i a e; ⟨v, e1, r.lx l⟩⟩
section
variable {nm : Nm} {Φ : List Fs} {Γ : List PyData} {lv : Nat}
/-- a list comprehension -/
theorem c_compN {X : Cx} (at_ : At nm Φ Γ lv X) {t : Tg} {it : Itx} {ifs : Exs} {e : Ex} {x tg iter : Expr} {cs : List Expr} {scope : Scope} {pos : Pos} (hb : blkC X.N X.env.scope scope (ownOf X.N t.slots) = true) (hi : PI X tg iter (rdI X.K Φ Γ it))
    (hg : ∀ (s : Shared) (H : Hp) (C : Addr) (cl : List (Str × Addr)) (fp : List Addr), PG (X.blk s H scope (compEnvC scope cl C X.env) fp) tg (rdG X.K Φ Γ t))
    (ht : ∀ (s : Shared) (H : Hp) (C : Addr) (cl : List (Str × Addr)) (fp : List Addr), PTs (X.blk s H scope (compEnvC scope cl C X.env) fp) cs (rdTs X.K Φ Γ ifs))
    (he : ∀ (s : Shared) (H : Hp) (C : Addr) (cl : List (Str × Addr)) (fp : List Addr), PE (X.blk s H scope (compEnvC scope cl C X.env) fp) x (rdE X.K Φ Γ e)) (hs : ∀ x, foldedSetIterable iter X.env x = pure x) :
    (∀ σ H Q, rdN X.K Φ Γ (.comp t it ifs e) σ H Q → tLc (rdI X.K Φ Γ it) (rdG X.K Φ Γ t) (rdTs X.K Φ Γ ifs) (rdE X.K Φ Γ e) ((ownOf X.N t.slots).map (·.2)) σ H Q) ∧ PE X (.ListComp x [⟨tg, iter, cs, 0⟩] scope pos) (rdN X.K Φ Γ (.comp t it ifs e)) := by
  have key : ∀ σ H Q, rdN X.K Φ Γ (.comp t it ifs e) σ H Q → tLc (rdI X.K Φ Γ it) (rdG X.K Φ Γ t) (rdTs X.K Φ Γ ifs) (rdE X.K Φ Γ e) ((ownOf X.N t.slots).map (·.2)) σ H Q := fun σ H Q ⟨W, env, S, ds, S', wd, re, ee, q⟩ => by
    have eo : (ownOf X.N t.slots).map (·.2) = t.slots := by
      unfold ownOf
      rw [List.map_map]
      simp [Function.comp_def]
    rw [eo]
    simp only [ev] at ee
    split at ee
    · cases ee
    · rename_i xs S1 e1
      split at ee
      · cases ee
      · rename_i ys S2 e2
        cases ee
        refine ⟨W, env, S, xs, S1, wd, re, e1, fun W1 J H1 le1 wd1 wk D hD => ?_⟩
        refine lc_run (S2 := S') (ys := ds) wd1 wk hD e2 (fun W2 H2 Sa Sb v d o Q1 Q2 lx wd2 rd ef q1 q2 => ?_) (fun W' p vs H' le => q W' p vs H' (le1.trans le))
        have lxx : Lx W W2 := le1.x.trans lx
        have re2 : Re X.K W2 (wipe σ t.slots) (wipeE env t.slots) := (re.lx lxx).wipe _
        split at ef
        · cases ef
        · rename_i env1 S3 eb
          refine ⟨W2, .d d, _, Sa, env1, S3, wd2, re2, rd, eb, fun W3 σ3 H3 le3 wd3 re3 w3 => ?_⟩
          refine ⟨by rw [w3, wipe_idem], ?_⟩
          split at ef
          · cases ef
          · rename_i S4 et
            cases ef
            exact ⟨W3, env1, S3, false, _, wd3, re3, et, fun W4 H4 le4 wd4 => iteF (q1 rfl W4 H4 (le3.trans le4) wd4)⟩
          · rename_i S4 et
            refine ⟨W3, env1, S3, true, S4, wd3, re3, et, fun W4 H4 le4 wd4 => iteT ?_⟩
            split at ef
            · cases ef
            · rename_i y S5 ey
              split at ef
              · cases ef
              · rename_i z S6 ez
                cases ef
                refine ⟨W4, env1, S4, y, S5, wd4, re3.le le4, ey, fun W5 v5 H5 le5 wd5 r5 => ?_⟩
                obtain ⟨W6, le6, eρ, wd6, r6⟩ := wd5.frz r5 ez
                exact q2 z rfl W6 v5 H5 (((le3.trans le4).trans le5).trans le6) wd6 r6
  exact ⟨key, PE_imp (pe_lc at_.calm at_.nd hi (blkOk_by hb) hg ht he hs) key⟩
theorem comp_d {t : Tg} {it : Itx} {ifs : Exs} {e : Ex} {env : En} {S S' : Sto} {a : A} (h : ev Φ Γ (.comp t it ifs e) env S = some (a, S')) : ∃ ds, a = .d (.list ds) := by
  simp only [ev] at h
  split at h
  · cases h
  · split at h
    · cases h
    · cases h
      exact ⟨_, rfl⟩
theorem lrg_d {e : Ex} {env : En} {S S' : Sto} {a : A} (h : ev Φ Γ (.lrg e) env S = some (a, S')) : ∃ ds, a = .d (.list ds) := by
  simp only [ev] at h
  split at h
  · rename_i j S1 e1
    cases e2 : rngF 0 j with
    | none =>
      rw [e2] at h
      cases h
    | some xs =>
      rw [e2] at h
      cases h
      exact ⟨_, rfl⟩
  · cases h
theorem lst_d {es : Exs} {env : En} {S S' : Sto} {a : A} (h : ev Φ Γ (.lst es) env S = some (a, S')) : ∃ ds, a = .d (.list ds) := by
  simp only [ev] at h
  split at h
  · cases h
  · split at h
    · cases h
      exact ⟨_, rfl⟩
    · cases h
theorem allSt_of : ∀ {es : Exs} {xs : List Expr} {N : List Str} {sc : Scope} {ow : Str → Bool}, agEs nm N sc ow es xs = true → allSt xs = true
  | .nil, [], _, _, _, _ => rfl
  | .nil, _ :: _, _, _, _, h => by simp [agEs] at h
  | .cons _ _, [], _, _, _, h => by simp [agEs] at h
  | .cons _ es, x :: xs, _, _, _, h => by
    simp only [agEs, Bool.and_eq_true] at h
    simp only [allSt, Bool.and_eq_true]
    exact ⟨h.1.1, allSt_of h.2⟩
theorem relS_at {X : Cx} (s : Shared) (H : Hp) (scope : Scope) (C : Addr) (cl : List (Str × Addr)) (fp : List Addr) : (X.blk s H scope (compEnvC scope cl C X.env) fp).env.scope = relS scope X.env.scope := rfl
theorem rfl_t {x : Expr} {env : Env} (h : ∀ whole, isTrue x env whole = (do let v ← whole; standAt x.pos; holding [v] (truthy v))) : ∀ whole, isTrue x env whole = (do let v ← whole; standAt x.pos; holding [v] (truthy v)) := h
/-- the three readings of a term -/
def S3 (Φ : List Fs) (Γ : List PyData) (X : Cx) (e : Ex) (x : Expr) : Prop := PE X x (rdE X.K Φ Γ e) ∧ PT X x (rdT X.K Φ Γ e) ∧ (isNew e = true → PE X x (rdN X.K Φ Γ e))
theorem s3_val {X : Cx} {e : Ex} {x : Expr} (hn : isNew e = false) (hp : ∀ whole, isTrue x X.env whole = (do let v ← whole; standAt x.pos; holding [v] (truthy v))) (h : PE X x (rdE X.K Φ Γ e)) : S3 Φ Γ X e x :=
  ⟨h, t_val h hp, fun h' => by rw [hn] at h'; cases h'⟩
/-- the readings of terms in a row -/
def S7 (Φ : List Fs) (Γ : List PyData) (X : Cx) (es : Exs) (xs : List Expr) : Prop := PA X xs (rdA X.K Φ Γ es) ∧ (∀ pos, PE X (.BoolOp .And xs pos) (rdAnd X.K Φ Γ es)) ∧ (∀ pos, PE X (.BoolOp .Or xs pos) (rdOr X.K Φ Γ es)) ∧ (∀ pos, PW X (.BoolOp .And xs pos) (rdTAnd X.K Φ Γ es)) ∧ (∀ pos, PW X (.BoolOp .Or xs pos) (rdTOr X.K Φ Γ es)) ∧ PTs X xs (rdTs X.K Φ Γ es)
theorem s7_nil {X : Cx} : S7 Φ Γ X .nil [] := by
  refine ⟨a_nil, fun pos => ⟨fun pins s σ H Q I ⟨W, env, S, a, S', wd, re, e, q⟩ => ?_⟩, fun pos => ⟨fun pins s σ H Q I ⟨W, env, S, a, S', wd, re, e, q⟩ => ?_⟩, fun pos => ⟨fun wh pins s σ H Q I ⟨W, env, S, a, S', k, wd, re, e, et, q⟩ => ?_⟩, fun pos => ⟨fun wh pins s σ H Q I ⟨W, env, S, a, S', k, wd, re, e, et, q⟩ => ?_⟩, ⟨fun pins s σ H Q I ⟨W, env, S, k, S', wd, re, e, q⟩ => ?_⟩⟩
  · simp [evAnd] at e
  · simp [evOr] at e
  · simp [evAnd] at e
  · simp [evOr] at e
  · simp only [evTs] at e
    cases e
    exact pts_nil.run pins s σ H Q I (q W H (.refl W) wd)
theorem s7_cons {X : Cx} {e : Ex} {es : Exs} {x : Expr} {xs : List Expr} (hs : notSt x = true) (hn : (es.isNil = true ∧ xs = []) ∨ ∃ e' es' x' xs', es = .cons e' es' ∧ xs = x' :: xs') (h : S3 Φ Γ X e x) (h' : S7 Φ Γ X es xs) : S7 Φ Γ X (.cons e es) (x :: xs) := by
  obtain ⟨p1, p2, p3, p4, p5, p6⟩ := h'
  refine ⟨a_cons hs h.1 p1, ?_⟩
  rcases hn with ⟨hn, rfl⟩ | ⟨e', es', x', xs', rfl, rfl⟩
  · cases es with
    | cons _ _ => cases hn
    | nil =>
      refine ⟨fun pos => and_one h.1, fun pos => or_one h.1, fun pos => t_and_one h.2.1, fun pos => t_or_one h.2.1, ⟨fun pins s σ H Q I ⟨W, env, S, k, S', wd, re, e, q⟩ => ?_⟩⟩
      simp only [evTs] at e
      split at e
      · cases e
      · rename_i a S1 e1
        cases et : tru S1 a with
        | none =>
          rw [et] at e
          cases e
        | some k' =>
          rw [et] at e
          cases e
          exact (pts_one h.2.1).run pins s σ H Q I ⟨W, env, S, a, _, _, wd, re, e1, et, q⟩
  · refine ⟨fun pos => and_cons h.1 (p2 pos), fun pos => or_cons h.1 (p3 pos), fun pos => t_and_cons h.2.1 (p4 pos), fun pos => t_or_cons h.2.1 (p5 pos), ⟨fun pins s σ H Q I ⟨W, env, S, k, S', wd, re, e, q⟩ => ?_⟩⟩
    simp [evTs] at e
theorem and_s {X : Cx} {es : Exs} {xs : List Expr} {pos : Pos} (h : S7 Φ Γ X es xs) : S3 Φ Γ X (.and es) (.BoolOp .And xs pos) := by
  refine ⟨PE_imp (h.2.1 pos) fun σ H Q ⟨W, env, S, a, S', wd, re, e, q⟩ => ⟨W, env, S, a, S', wd, re, by simpa only [ev] using e, q⟩, PT_imp (h.2.2.2.1 pos).pt fun σ H Q ⟨W, env, S, a, S', k, wd, re, e, et, q⟩ => ⟨W, env, S, a, S', k, wd, re, by simpa only [ev] using e, et, q⟩, fun h => by cases h⟩
theorem or_s {X : Cx} {es : Exs} {xs : List Expr} {pos : Pos} (h : S7 Φ Γ X es xs) : S3 Φ Γ X (.or es) (.BoolOp .Or xs pos) := by
  refine ⟨PE_imp (h.2.2.1 pos) fun σ H Q ⟨W, env, S, a, S', wd, re, e, q⟩ => ⟨W, env, S, a, S', wd, re, by simpa only [ev] using e, q⟩, PT_imp (h.2.2.2.2.1 pos).pt fun σ H Q ⟨W, env, S, a, S', k, wd, re, e, et, q⟩ => ⟨W, env, S, a, S', k, wd, re, by simpa only [ev] using e, et, q⟩, fun h => by cases h⟩
theorem cons_sh {N : List Str} {sc : Scope} {ow : Str → Bool} {es : Exs} {xs : List Expr} (h : agEs nm N sc ow es xs = true) : (es.isNil = true ∧ xs = []) ∨ ∃ e' es' x' xs', es = .cons e' es' ∧ xs = x' :: xs' := by
  cases es with
  | nil =>
    cases xs with
    | nil => exact .inl ⟨rfl, rfl⟩
    | cons _ _ => simp [agEs] at h
  | cons e es =>
    cases xs with
    | nil => simp [agEs] at h
    | cons _ _ => exact .inr ⟨_, _, _, _, rfl, rfl⟩
theorem vis_of {X : Cx} {x : Str} (h : isVis X.env.scope x = true) : Vis X.env.scope x := isVis_ok h
theorem swo (x : Str) (scope : Scope) : (scope.names.lookup x == some .cell) = true → (fun x => scope.names.lookup x == some NameKind.cell) x = true := id
mutual
theorem e_s : ∀ (e : Ex) (X : Cx) (ow : Str → Bool) (x : Expr), At nm Φ Γ lv X → (∀ x, ow x = true → X.fn x = true) → agE nm X.N X.env.scope ow e x = true → S3 Φ Γ X e x
  | .var i, X, ow, x, at_, how, h => by
    simp only [agE] at h
    split at h
    · simp only [Bool.and_eq_true, decide_eq_true_eq] at h
      exact s3_val rfl (fun _ => rfl) (c_var at_ h.1.1 (isVis_ok h.1.2) h.2)
    · cases h
  | .cst c, X, ow, x, at_, how, h => by
    simp only [agE] at h
    split at h
    · exact s3_val rfl (fun _ => rfl) (c_cst at_ h)
    · cases h
  | .glb i, X, ow, x, at_, how, h => by
    simp only [agE] at h
    split at h
    · simp only [Bool.and_eq_true, decide_eq_true_eq] at h
      exact s3_val rfl (fun _ => rfl) (c_glb at_ h.1.1 h.1.2 h.2)
    · cases h
  | .tup es, X, ow, x, at_, how, h => by
    simp only [agE] at h
    split at h
    · simp only [Bool.and_eq_true, decide_eq_true_eq] at h
      exact s3_val rfl (fun _ => rfl) (c_tup at_ h.1 h.2 ((es_s es X ow at_ how).1 _ h.2).1)
    · cases h
  | .lst es, X, ow, x, at_, how, h => by
    simp only [agE] at h
    split at h
    · simp only [Bool.and_eq_true, decide_eq_true_eq] at h
      have n := c_lstN (pos := ‹Pos›) at_ h.1 h.2 ((es_s es X ow at_ how).1 _ h.2).1
      have v := c_ofN at_ n fun env S a S' => lst_d
      exact ⟨v, t_val v fun _ => rfl, fun _ => n⟩
    · cases h
  | .fresh a, X, ow, x, at_, how, h => by
    simp only [agE, Bool.and_eq_true] at h
    obtain ⟨p1, p2, p3⟩ := e_s a X ow x at_ how h.2
    have hn : isNew a = true := by
      have h1 := h.1
      split at h1 <;> first | rfl | cases h1
    have v := c_fresh at_ (p3 hn)
    refine ⟨v, t_val v ?_, fun h => by cases h⟩
    have h2 := h.2
    have h1 := h.1
    split at h1 <;> first | (cases h1; done) | skip
    all_goals
      simp only [agE] at h2
      split at h2 <;> first | (cases h2; done) | (intro _; rfl)
  | .bin o a b, X, ow, x, at_, how, h => by
    simp only [agE] at h
    split at h
    · simp only [Bool.and_eq_true, decide_eq_true_eq] at h
      obtain ⟨⟨rfl, h1⟩, h2⟩ := h
      exact s3_val rfl (fun _ => rfl) (c_bin at_ (e_s a X ow _ at_ how h1).1 (e_s b X ow _ at_ how h2).1)
    · cases h
  | .neg a, X, ow, x, at_, how, h => by
    simp only [agE] at h
    split at h
    · exact s3_val rfl (fun _ => rfl) (c_neg at_ (e_s a X ow _ at_ how h).1)
    · cases h
  | .cmp o a b, X, ow, x, at_, how, h => by
    simp only [agE] at h
    split at h
    · simp only [Bool.and_eq_true, decide_eq_true_eq, Bool.not_eq_true'] at h
      obtain ⟨⟨⟨rfl, hm⟩, h1⟩, h2⟩ := h
      exact ⟨c_cmp at_ hm (e_s a X ow _ at_ how h1).1 (e_s b X ow _ at_ how h2).1, c_cmpT at_ hm (e_s a X ow _ at_ how h1).1 (e_s b X ow _ at_ how h2).1, fun h => by cases h⟩
    · cases h
  | .chn o p a b c, X, ow, x, at_, how, h => by
    simp only [agE] at h
    split at h
    · simp only [Bool.and_eq_true, decide_eq_true_eq, Bool.not_eq_true'] at h
      obtain ⟨⟨⟨⟨⟨rfl, rfl⟩, hm⟩, h1⟩, h2⟩, h3⟩ := h
      exact ⟨c_chn at_ hm (e_s a X ow _ at_ how h1).1 (e_s b X ow _ at_ how h2).1 (e_s c X ow _ at_ how h3).1, c_chnT at_ hm (e_s a X ow _ at_ how h1).1 (e_s b X ow _ at_ how h2).1 (e_s c X ow _ at_ how h3).1, fun h => by cases h⟩
    · cases h
  | .and es, X, ow, x, at_, how, h => by
    simp only [agE] at h
    split at h
    · exact and_s ((es_s es X ow at_ how).1 _ h)
    · cases h
  | .or es, X, ow, x, at_, how, h => by
    simp only [agE] at h
    split at h
    · exact or_s ((es_s es X ow at_ how).1 _ h)
    · cases h
  | .not a, X, ow, x, at_, how, h => by
    simp only [agE] at h
    split at h
    · have q := e_s a X ow _ at_ how h
      exact ⟨c_not at_ q.1, c_notT at_ q.2.1, fun h => by cases h⟩
    · cases h
  | .ite t a b, X, ow, x, at_, how, h => by
    simp only [agE] at h
    split at h
    · simp only [Bool.and_eq_true] at h
      have q1 := e_s t X ow _ at_ how h.1.1
      have q2 := e_s a X ow _ at_ how h.1.2
      have q3 := e_s b X ow _ at_ how h.2
      exact ⟨c_ite at_ q1.2.1 q2.1 q3.1, t_ite q1.2.1 q2.2.1 q3.2.1, fun h => by cases h⟩
    · cases h
  | .ix a i, X, ow, x, at_, how, h => by
    simp only [agE] at h
    split at h
    · simp only [Bool.and_eq_true] at h
      exact s3_val rfl (fun _ => rfl) (c_ix at_ h.1.1 (e_s a X ow _ at_ how h.1.2).1 (e_s i X ow _ at_ how h.2).1)
    · cases h
  | .slc a lo hi, X, ow, x, at_, how, h => by
    simp only [agE] at h
    split at h
    · simp only [Bool.and_eq_true] at h
      exact s3_val rfl (fun _ => rfl) (c_slc at_ (e_s a X ow _ at_ how h.1.1).1 ((es_s lo X ow at_ how).2 _ h.1.2) ((es_s hi X ow at_ how).2 _ h.2))
    · cases h
  | .call f es, X, ow, x, at_, how, h => by
    simp only [agE] at h
    split at h
    · simp only [Bool.and_eq_true, decide_eq_true_eq] at h
      exact s3_val rfl (fun _ => rfl) (c_call at_ h.1.1.1 h.1.1.2 h.1.2 (allSt_of h.2) h.2 ((es_s es X ow at_ how).1 _ h.2).1)
    · cases h
  | .blt b es, X, ow, x, at_, how, h => by
    simp only [agE] at h
    split at h
    · simp only [Bool.and_eq_true, decide_eq_true_eq] at h
      obtain ⟨⟨rfl, h2⟩, h3⟩ := h
      have hs := allSt_of h3
      simp only [allSt, Bool.and_eq_true] at hs
      have v := c_blt (p := ‹Pos›) (pos := ‹Pos›) at_ h2 hs.1 hs.2 ((es_s es X ow at_ how).1 _ h3).1
      refine ⟨?_, ?_, fun hn => ?_⟩
      · exact c_blt at_ h2 hs.1 hs.2 ((es_s es X ow at_ how).1 _ h3).1
      · exact t_val (c_blt at_ h2 hs.1 hs.2 ((es_s es X ow at_ how).1 _ h3).1) fun _ => rfl
      · refine c_bltN at_ ?_ h2 hs.1 hs.2 ((es_s es X ow at_ how).1 _ h3).1
        simp only [isNew, Bool.or_eq_true, beq_iff_eq] at hn
        exact hn
    · cases h
  | .isi a ts, X, ow, x, at_, how, h => by
    simp only [agE] at h
    split at h
    · simp only [Bool.and_eq_true, decide_eq_true_eq] at h
      obtain ⟨⟨⟨⟨rfl, h2⟩, s1⟩, h3⟩, h4⟩ := h
      have q := (e_s a X ow _ at_ how h3).1
      split at h4
      · simp only [Bool.and_eq_true, decide_eq_true_eq] at h4
        exact s3_val rfl (fun _ => rfl) (c_isiT at_ h2 s1 q h4.2 h4.1)
      · split at h4
        · exact s3_val rfl (fun _ => rfl) (c_isi1 at_ h2 s1 q h4)
        · cases h4
    · cases h
  | .comp t it ifs a, X, ow, x, at_, how, h => by
    simp only [agE] at h
    split at h
    · simp only [Bool.and_eq_true, decide_eq_true_eq] at h
      obtain ⟨⟨⟨⟨⟨⟨rfl, hb⟩, h1⟩, h2⟩, h3⟩, h4⟩, h5⟩ := h
      have q1 := i_s it X ow _ _ at_ how h1
      have n := (c_compN (pos := ‹Pos›) at_ hb q1.1 (fun s H C cl fp => t_s t _ _ _ _ (at_.blk ..) (fun _ z => z) h2) (fun s H C cl fp => ((es_s ifs _ _ (at_.blk ..) (fun _ z => z)).1 _ h4).2.2.2.2.2) (fun s H C cl fp => (e_s a _ _ _ (at_.blk ..) (fun _ z => z) h5).1) q1.2).2
      have v := c_ofN at_ n fun env S a S' => comp_d
      exact ⟨v, t_val v fun _ => rfl, fun _ => n⟩
    · cases h
  | .lrg a, X, ow, x, at_, how, h => by
    simp only [agE] at h
    split at h
    · simp only [Bool.and_eq_true, decide_eq_true_eq] at h
      obtain ⟨⟨⟨⟨⟨rfl, rfl⟩, h1⟩, h2⟩, h3⟩, h4⟩ := h
      have v := c_ofN at_ (c_lrgN (p1 := ‹Pos›) (p2 := ‹Pos›) (p3 := ‹Pos›) (pos := ‹Pos›) at_ h1 h2 h3 (e_s a X ow _ at_ how h4).1) fun env S a S' => lrg_d
      exact ⟨c_ofN at_ (c_lrgN at_ h1 h2 h3 (e_s a X ow _ at_ how h4).1) fun env S a S' => lrg_d, t_val (c_ofN at_ (c_lrgN at_ h1 h2 h3 (e_s a X ow _ at_ how h4).1) fun env S a S' => lrg_d) fun _ => rfl, fun _ => c_lrgN at_ h1 h2 h3 (e_s a X ow _ at_ how h4).1⟩
    · cases h
theorem es_s : ∀ (es : Exs) (X : Cx) (ow : Str → Bool), At nm Φ Γ lv X → (∀ x, ow x = true → X.fn x = true) → (∀ xs, agEs nm X.N X.env.scope ow es xs = true → S7 Φ Γ X es xs) ∧ (∀ x, agO nm X.N X.env.scope ow es x = true → PO X x (rdO X.K Φ Γ es))
  | .nil, X, ow, at_, how => by
    refine ⟨fun xs h => ?_, fun x h => ?_⟩
    · simp only [agEs] at h
      split at h
      · exact s7_nil
      · cases h
    · simp only [agO] at h
      split at h
      · exact o_nil
      · cases h
  | .cons e es, X, ow, at_, how => by
    refine ⟨fun xs h => ?_, fun x h => ?_⟩
    · simp only [agEs] at h
      split at h
      · simp only [Bool.and_eq_true] at h
        exact s7_cons h.1.1 (cons_sh h.2) (e_s e X ow _ at_ how h.1.2) ((es_s es X ow at_ how).1 _ h.2)
      · cases h
    · simp only [agO] at h
      split at h
      · split at h
        · exact o_one (e_s e X ow _ at_ how h).1
        · cases h
      · cases h
theorem t_s : ∀ (t : Tg) (X : Cx) (ow : Str → Bool) (big : Bool) (x : Expr), At nm Φ Γ lv X → (∀ x, ow x = true → X.fn x = true) → agT nm X.N X.env.scope ow big t x = true → PG X x (rdG X.K Φ Γ t)
  | .nm i, X, ow, big, x, at_, how, h => by
    simp only [agT] at h
    split at h
    · simp only [Bool.and_eq_true, decide_eq_true_eq] at h
      obtain ⟨l1, l2⟩ := isLoc_ok how h.2
      exact g_nm at_ h.1 l1 l2
    · cases h
  | .tp ts, X, ow, big, x, at_, how, h => by
    simp only [agT] at h
    split at h
    · exact g_tp at_ h (ts_s ts X ow big _ at_ how h)
    · cases h
  | .sub o i, X, ow, big, x, at_, how, h => by
    simp only [agT] at h
    split at h
    · simp only [Bool.and_eq_true] at h
      exact g_sub at_ h.1.1.2 (e_s o X ow _ at_ how h.1.2).1 (e_s i X ow _ at_ how h.2).1
    · cases h
theorem ts_s : ∀ (ts : Tgs) (X : Cx) (ow : Str → Bool) (big : Bool) (xs : List Expr), At nm Φ Γ lv X → (∀ x, ow x = true → X.fn x = true) → agTs nm X.N X.env.scope ow big ts xs = true → PGs X xs (rdGs X.K Φ Γ ts)
  | .nil, X, ow, big, xs, at_, how, h => by
    simp only [agTs] at h
    split at h
    · exact gs_nil
    · cases h
  | .cons t ts, X, ow, big, xs, at_, how, h => by
    simp only [agTs] at h
    split at h
    · simp only [Bool.and_eq_true] at h
      exact gs_cons h.1.1 (t_s t X ow big _ at_ how h.1.2) (ts_s ts X ow big _ at_ how h.2)
    · cases h
theorem i_s : ∀ (it : Itx) (X : Cx) (ow : Str → Bool) (tg x : Expr), At nm Φ Γ lv X → (∀ x, ow x = true → X.fn x = true) → agI nm X.N X.env.scope ow it tg x = true → PI X tg x (rdI X.K Φ Γ it) ∧ ∀ v, foldedSetIterable x X.env v = pure v
  | .seq e, X, ow, tg, x, at_, how, h => by
    simp only [agI, Bool.and_eq_true] at h
    exact ⟨i_seq at_ (e_s e X ow _ at_ how h.2).1, folded_of h.1 _⟩
  | .rng a, X, ow, tg, x, at_, how, h => by
    simp only [agI] at h
    split at h
    · simp only [Bool.and_eq_true, decide_eq_true_eq] at h
      obtain ⟨⟨⟨rfl, h2⟩, h3⟩, h4⟩ := h
      exact ⟨i_rng at_ h2 h3 (e_s a X ow _ at_ how h4).1, fun _ => rfl⟩
    · cases h
  | .rng2 a b, X, ow, tg, x, at_, how, h => by
    simp only [agI] at h
    split at h
    · simp only [Bool.and_eq_true, decide_eq_true_eq] at h
      obtain ⟨⟨⟨⟨⟨rfl, h2⟩, h3⟩, h4⟩, h5⟩, h6⟩ := h
      exact ⟨i_rng2 at_ h2 h3 h4 (e_s a X ow _ at_ how h5).1 (e_s b X ow _ at_ how h6).1, fun _ => rfl⟩
    · cases h
  | .enm a, X, ow, tg, x, at_, how, h => by
    simp only [agI, Bool.and_eq_true] at h
    obtain ⟨ht, h⟩ := h
    split at ht
    · split at h
      · simp only [Bool.and_eq_true, decide_eq_true_eq] at h
        obtain ⟨⟨⟨rfl, h2⟩, h3⟩, h4⟩ := h
        exact ⟨i_enm at_ h2 h3 (e_s a X ow _ at_ how h4).1, fun _ => rfl⟩
      · cases h
    · cases ht
  | .zip a b, X, ow, tg, x, at_, how, h => by
    simp only [agI, Bool.and_eq_true] at h
    obtain ⟨ht, h⟩ := h
    split at ht
    · split at h
      · simp only [Bool.and_eq_true, decide_eq_true_eq] at h
        obtain ⟨⟨⟨⟨⟨rfl, h2⟩, h3⟩, h4⟩, h5⟩, h6⟩ := h
        exact ⟨i_zip at_ h2 h3 h4 (e_s a X ow _ at_ how h5).1 (e_s b X ow _ at_ how h6).1, fun _ => rfl⟩
      · cases h
    · cases ht
end
end
end PV

/-! PV16: statements. -/
namespace PV
open PySem PySem.Spec PyProof.Rows L2
/-- behind a statement -/
def KtF (K : PySem.W.Frag) (W : Wo) (D : Ends) : Fl × En × Sto → Prop
  | (.nx, env, S) => ∀ W' σ' H', Le W W' → Wd K W' H' S → Re K W' σ' env → D.nx σ' H'
  | (.bk, env, S) => ∀ W' σ' H', Le W W' → Wd K W' H' S → Re K W' σ' env → D.bk σ' H'
  | (.ct, env, S) => ∀ W' σ' H', Le W W' → Wd K W' H' S → Re K W' σ' env → D.ct σ' H'
  | (.rt a, _, S) => ∀ W' v H', Le W W' → Wd K W' H' S → Ra K W' v a → D.rt v H'
theorem KtF.le {K : PySem.W.Frag} {W W' : Wo} {D : Ends} {r : Fl × En × Sto} (h : KtF K W D r) (l : Le W W') : KtF K W' D r := by
  obtain ⟨f, env, S⟩ := r
  cases f with
  | nx => exact fun W2 σ' H' l' => h W2 σ' H' (l.trans l')
  | bk => exact fun W2 σ' H' l' => h W2 σ' H' (l.trans l')
  | ct => exact fun W2 σ' H' l' => h W2 σ' H' (l.trans l')
  | rt a => exact fun W2 v H' l' => h W2 v H' (l.trans l')
section
variable (K : PySem.W.Frag) (Φ : List Fs) (Γ : List PyData)
def rdS (s : Sx) : TS := fun D σ H => ∃ W env S r, Wd K W H S ∧ Re K W σ env ∧ ex Φ Γ s env S = some r ∧ KtF K W D r
def rdSs (ss : Ss) : TS := fun D σ H => ∃ W env S r, Wd K W H S ∧ Re K W σ env ∧ exs Φ Γ ss env S = some r ∧ KtF K W D r
end
section
variable {nm : Nm} {Φ : List Fs} {Γ : List PyData} {lv : Nat} {X : Cx}
theorem q_nil : PSs X [] (rdSs X.K Φ Γ .nil) := PSs_imp pss_nil fun D σ H ⟨W, env, S, r, wd, re, e, q⟩ => by
  simp only [exs] at e
  cases e
  exact q W σ H (.refl W) wd re
theorem q_cons {s : Sx} {ss : Ss} {x : Stmt} {xs : List Stmt} (h1 : PS X x (rdS X.K Φ Γ s)) (h2 : PSs X xs (rdSs X.K Φ Γ ss)) : PSs X (x :: xs) (rdSs X.K Φ Γ (.cons s ss)) := PSs_imp (pss_cons h1 h2) fun D σ H ⟨W, env, S, r, wd, re, e, q⟩ => by
  simp only [exs] at e
  split at e
  · rename_i env1 S1 e1
    exact ⟨W, env, S, (.nx, env1, S1), wd, re, e1, fun W1 σ1 H1 le1 wd1 re1 => ⟨W1, env1, S1, r, wd1, re1, e, q.le le1⟩⟩
  · rename_i a env1 S1 e1
    cases e
    exact ⟨W, env, S, (.rt a, env1, S1), wd, re, e1, q⟩
  · rename_i env1 S1 e1
    cases e
    exact ⟨W, env, S, (.bk, env1, S1), wd, re, e1, q⟩
  · rename_i env1 S1 e1
    cases e
    exact ⟨W, env, S, (.ct, env1, S1), wd, re, e1, q⟩
  · cases e
theorem q_ret {e : Ex} {x : Expr} {pos : Pos} (h : PE X x (rdE X.K Φ Γ e)) : PS X (.Return (some x) pos) (rdS X.K Φ Γ (.ret e)) := PS_imp (ps_ret h) fun D σ H ⟨W, env, S, r, wd, re, e, q⟩ => by
  simp only [ex] at e
  split at e
  · cases e
  · rename_i a S1 e1
    split at e
    · rename_i x S2 e2
      cases e
      refine ⟨W, env, S, a, S1, wd, re, e1, fun W1 v1 H1 le1 wd1 r1 => ?_⟩
      obtain ⟨W2, le2, eρ, wd2, r2⟩ := wd1.frz r1 e2
      exact q W2 v1 H1 (le1.trans le2) wd2 r2
    · cases e
      exact ⟨W, env, S, a, S1, wd, re, e1, fun W1 v1 H1 le1 wd1 r1 => q W1 v1 H1 le1 wd1 r1⟩
theorem q_retO {e : Ex} {x : Expr} {pos : Pos} (h : PE X x (rdE X.K Φ Γ e)) : PS X (.Return (some x) pos) (rdS X.K Φ Γ (.retO e)) := PS_imp (ps_ret h) fun D σ H ⟨W, env, S, r, wd, re, e, q⟩ => by
  simp only [ex] at e
  split at e
  · cases e
  · rename_i a S1 e1
    cases e
    exact ⟨W, env, S, a, S1, wd, re, e1, fun W1 v1 H1 le1 wd1 r1 => q W1 v1 H1 le1 wd1 r1⟩
theorem q_ret0 {pos : Pos} : PS X (.Return none pos) (rdS X.K Φ Γ .ret0) := PS_imp ps_retN fun D σ H ⟨W, env, S, r, wd, re, e, q⟩ => by
  simp only [ex] at e
  cases e
  exact q W .non H (.refl W) wd .non
theorem q_pas {pos : Pos} : PS X (.Pass pos) (rdS X.K Φ Γ .pas) := PS_imp ps_pass fun D σ H ⟨W, env, S, r, wd, re, e, q⟩ => by
  simp only [ex] at e
  cases e
  exact q W σ H (.refl W) wd re
theorem q_brk {pos : Pos} : PS X (.Break pos) (rdS X.K Φ Γ .brk) := PS_imp ps_break fun D σ H ⟨W, env, S, r, wd, re, e, q⟩ => by
  simp only [ex] at e
  cases e
  exact q W σ H (.refl W) wd re
theorem q_cnt {pos : Pos} : PS X (.Continue pos) (rdS X.K Φ Γ .cnt) := PS_imp ps_continue fun D σ H ⟨W, env, S, r, wd, re, e, q⟩ => by
  simp only [ex] at e
  cases e
  exact q W σ H (.refl W) wd re
theorem q_exp {e : Ex} {x : Expr} {pos : Pos} (hp : plainVal x = true) (h : PE X x (rdE X.K Φ Γ e)) : PS X (.Expr x pos) (rdS X.K Φ Γ (.exp e)) := PS_imp (ps_expr h (by cases x <;> first | rfl | cases hp)) fun D σ H ⟨W, env, S, r, wd, re, e, q⟩ => by
  simp only [ex] at e
  split at e
  · cases e
  · rename_i a S1 e1
    cases e
    exact ⟨W, env, S, a, S1, wd, re, e1, fun W1 v1 H1 le1 wd1 r1 => q W1 σ H1 le1 wd1 (re.le le1)⟩
theorem q_if {t : Ex} {a b : Ss} {c : Expr} {x y : List Stmt} {pos : Pos} (hc : PT X c (rdT X.K Φ Γ t)) (ha : PSs X x (rdSs X.K Φ Γ a)) (hb : PSs X y (rdSs X.K Φ Γ b)) : PS X (.If c x y pos) (rdS X.K Φ Γ (.ifs t a b)) := PS_imp (ps_if hc ha hb) fun D σ H ⟨W, env, S, r, wd, re, e, q⟩ => by
  simp only [ex, evT] at e
  cases e1 : ev Φ Γ t env S with
  | none =>
    rw [e1] at e
    cases e
  | some z =>
    obtain ⟨a', S1⟩ := z
    rw [e1] at e
    cases e2 : tru S1 a' with
    | none =>
      simp only [e2, Option.map_none] at e
      cases e
    | some k =>
      simp only [e2, Option.map_some] at e
      refine ⟨W, env, S, a', S1, k, wd, re, e1, e2, fun W1 H1 le1 wd1 => ?_⟩
      cases k with
      | true => exact iteT ⟨W1, env, S1, r, wd1, re.le le1, e, q.le le1⟩
      | false => exact iteF ⟨W1, env, S1, r, wd1, re.le le1, e, q.le le1⟩
/-! stores -/
theorem asg_key {t : Tg} {e : Ex} : ∀ (D : Ends) (σ : L2.St) (H : Hp), rdS X.K Φ Γ (.asg t e) D σ H → tAsg (rdE X.K Φ Γ e) (rdG X.K Φ Γ t) D σ H := fun D σ H ⟨W, env, S, r, wd, re, e, q⟩ => by
  simp only [ex] at e
  split at e
  · cases e
  · rename_i a S1 e1
    cases e2 : bnd Φ Γ t a env S1 with
    | none =>
      rw [e2] at e
      cases e
    | some z =>
      rw [e2] at e
      cases e
      obtain ⟨env', S'⟩ := z
      exact ⟨W, env, S, a, S1, wd, re, e1, fun W1 v1 H1 le1 wd1 r1 => ⟨W1, a, env, S1, env', S', wd1, re.le le1, r1, e2, fun W2 σ2 H2 le2 wd2 re2 _ => q W2 σ2 H2 (le1.trans le2) wd2 re2⟩⟩
theorem q_asg {t : Tg} {e : Ex} {tg v : Expr} {pos : Pos} (hs : swapsWithSole [tg] v pos.line X.env = pure false) (hw : swappedStores [tg] v X.env = pure none) (hn : notSt tg = true) (he : PE X v (rdE X.K Φ Γ e)) (hg : PG X tg (rdG X.K Φ Γ t)) : PS X (.Assign [tg] v pos) (rdS X.K Φ Γ (.asg t e)) :=
  PS_imp (ps_asg he hg hs hw (by cases tg <;> first | rfl | cases hn)) asg_key
theorem q_app {o e : Ex} {x y : Expr} {p1 p2 pos : Pos} (hb : notCall x = true) (hs : notSt y = true) (hl : (p1.endLine == p2.line) = true) (ho : PE X x (rdE X.K Φ Γ o)) (he : PE X y (rdE X.K Φ Γ e)) : PS X (.Expr (.Call (.Attribute x "append" p1) [y] [] p2) pos) (rdS X.K Φ Γ (.app o e)) := by
  have hm := pe_bm (o := x) (e := y) (es := []) (apos := p1) (cpos := p2) PySem.F.plainAttrs_list PySem.F.slot_list_append PySem.F.type_list_append mt_append ho (a_cons hs he a_nil) (by cases x <;> first | rfl | cases hb) (by rw [star_of hs]; rfl) hl (star_of hs _ _) rfl
  refine PS_imp (ps_expr hm) fun D σ H ⟨W, env, S, r, wd, re, e, q⟩ => ?_
  simp only [ex] at e
  split at e
  · cases e
  · rename_i a S1 e1
    split at e
    · rename_i l el
      split at e
      · cases e
      rename_i b S2 e2
      cases e3 : appF a b S2 with
      | none =>
        rw [e3] at e
        cases e
      | some S3 =>
        rw [e3] at e
        cases e
        unfold appF at e3
        split at e3
        · rename_i k
          split at e3
          · rename_i z S4 ez
            split at e3
            · rename_i xs ek
              split at e3
              · rename_i hlen
                cases e3
                refine ⟨W, env, S, .obj k, S1, wd, re, e1, fun W1 v1 H1 le1 wd1 r1 => ?_⟩
                obtain ⟨p, g1, rfl⟩ := r1
                refine ⟨?_, W1, env, S1, [b], S2, wd1, re.le le1, by simp only [evs, e2], fun W2 vs H2 le2 wd2 ra => ?_⟩
                · simp only [deref] at el
                  split at el
                  · rename_i es fz e5
                    obtain ⟨vs, h1, h2, h3⟩ := wd1.ob k p _ g1 e5
                    exact .inl ⟨rfl, _, .inl (.inl h1)⟩
                  · cases el
                  · cases el
                · cases ra with
                  | cons rb t =>
                    cases t
                    obtain ⟨W3, le3, eρ, wd3, rz⟩ := wd2.frz rb ez
                    have g2 : W3.ρ[k]? = some p := by
                      rw [eρ]
                      exact le2.get g1
                    obtain ⟨vs, h1, h2, h3⟩ := wd3.ob k p _ g2 ek
                    have nF : W3.F p = none := by simpa using h3
                    refine ⟨p, vs, _, rfl, rfl, h1, ?_, ?_⟩
                    · rw [h2.length]
                      rw [sizeLine_eq]
                      exact hlen
                    · exact q W3 σ _ ((le1.trans le2).trans le3) (wd3.write g2 nF ⟨_, upd_same, h2.append (.cons rz .nil), by simpa using nF⟩) (((re.le le1).le le2).le le3)
              · cases e3
            · cases e3
          · cases e3
        · cases e3
    · cases e
/-! loops -/
theorem q_for {t : Tg} {it : Itx} {b : Ss} {wl : List Nat} {tg iter : Expr} {x : List Stmt} {pos : Pos} (hp : PassesOwn (model X.prog X.w) X.A X.env X.xe) (hc : X.calm = true) (hi : PI X tg iter (rdI X.K Φ Γ it)) (hg : PG X tg (rdG X.K Φ Γ t)) (hb : PSs X x (rdSs X.K Φ Γ b)) (hs : ∀ v, foldedSetIterable iter X.env v = pure v) :
    PS X (.For tg iter x [] pos) (rdS X.K Φ Γ (.for_ t it b wl)) := PS_imp (ps_for hp hc hi hg hb hs) fun D σ H ⟨W, env, S, r, wd, re, e, q⟩ => by
  simp only [ex] at e
  split at e
  · cases e
  · rename_i xs S1 e1
    refine ⟨W, env, S, xs, S1, wd, re, e1, fun W1 J H1 le1 wd1 wk => ?_⟩
    generalize hf : (fun x env S => match bnd Φ Γ t (.d x) env S with
      | none => none
      | some (env1, S1) => (exs Φ Γ b env1 S1).map fun (r : Fl × En × Sto) => (r.1, wipeE r.2.1 wl, r.2.2)) = f at e
    refine ⟨fun i m σ H => m = xs.length - i ∧ i ≤ xs.length ∧ ∃ W2 env2 S2, Le W1 W2 ∧ Wd X.K W2 H S2 ∧ Re X.K W2 σ env2 ∧ forL f (xs.drop i) env2 S2 = some r, ⟨xs.length, by simp, Nat.zero_le _, W1, env, S1, .refl _, wd1, re.le le1, e⟩, ?_⟩
    rintro i m σ2 H2 ⟨rfl, hi, W2, env2, S2, le2, wd2, re2, e2⟩
    by_cases hlt : i < xs.length
    · refine .inr ⟨wk.go W2 H2 S2 i le2.x wd2 hlt, fun σ' H' => ∃ W2 env2 S2, Le W1 W2 ∧ Wd X.K W2 H' S2 ∧ Re X.K W2 σ' env2 ∧ forL f (xs.drop (i + 1)) env2 S2 = some r, fun σ' H' h' => ⟨xs.length - (i + 1), by omega, rfl, hlt, h'⟩, fun y H' hy => ?_⟩
      obtain ⟨W3, d, le3, wd3, ed, rd⟩ := wk.yld W2 H2 H' S2 i y le2.x wd2 hlt hy
      rw [List.drop_eq_getElem_cons hlt] at e2
      have ed' : xs[i] = d := by
        rw [List.getElem?_eq_getElem hlt] at ed
        exact Option.some.inj ed
      rw [ed'] at e2
      have l13 := le2.trans le3
      have ef : f d env2 S2 = match bnd Φ Γ t (.d d) env2 S2 with
          | none => none
          | some (env1, S1) => (exs Φ Γ b env1 S1).map fun r => (r.1, wipeE r.2.1 wl, r.2.2) := by rw [← hf]
      cases eb : bnd Φ Γ t (.d d) env2 S2 with
      | none =>
        simp only [eb] at ef
        simp only [forL, ef] at e2
        cases e2
      | some z =>
        obtain ⟨env3, S3⟩ := z
        simp only [eb] at ef
        refine ⟨W3, .d d, env2, S2, env3, S3, wd3, re2.le le3, rd, eb, fun W4 σ4 H4 le4 wd4 re4 _ => ?_⟩
        cases ex' : exs Φ Γ b env3 S3 with
        | none =>
          rw [ex'] at ef
          simp only [forL, ef, Option.map_none] at e2
          cases e2
        | some r5 =>
          rw [ex'] at ef
          simp only [Option.map_some] at ef
          refine ⟨W4, env3, S3, r5, wd4, re4, ex', ?_⟩
          have l14 := l13.trans le4
          obtain ⟨fl, env5, S5⟩ := r5
          cases fl with
          | nx =>
            simp only [forL, ef] at e2
            exact fun W5 σ5 H5 le5 wd5 re5 => ⟨W5, _, S5, l14.trans le5, wd5, re5.forgetAll wl, e2⟩
          | ct =>
            simp only [forL, ef] at e2
            exact fun W5 σ5 H5 le5 wd5 re5 => ⟨W5, _, S5, l14.trans le5, wd5, re5.forgetAll wl, e2⟩
          | bk =>
            simp only [forL, ef] at e2
            cases e2
            exact fun W5 σ5 H5 le5 wd5 re5 => q W5 σ5 H5 (le1.trans (l14.trans le5)) wd5 (re5.forgetAll wl)
          | rt a =>
            simp only [forL, ef] at e2
            cases e2
            exact fun W5 v H5 le5 wd5 r5 => q W5 v H5 (le1.trans (l14.trans le5)) wd5 r5
    · have ei : i = xs.length := by omega
      subst ei
      rw [List.drop_length] at e2
      cases e2
      exact .inl ⟨wk.stop W2 H2 S2 le2.x wd2, q W2 σ2 H2 (le1.trans le2) wd2 re2⟩
theorem q_whl {n : Nat} {t : Ex} {b : Ss} {wl : List Nat} {c : Expr} {x : List Stmt} {pos : Pos} (hp : PassesOwn (model X.prog X.w) X.A X.env X.xe) (hc : PT X c (rdT X.K Φ Γ t)) (hb : PSs X x (rdSs X.K Φ Γ b)) :
    PS X (.While c x [] pos) (rdS X.K Φ Γ (.whl n t b wl)) := PS_imp (ps_while hp hc hb) fun D σ H ⟨W, env, S, r, wd, re, e, q⟩ => by
  simp only [ex] at e
  generalize hf : (fun env S => (exs Φ Γ b env S).map fun (r : Fl × En × Sto) => (r.1, wipeE r.2.1 wl, r.2.2)) = f at e
  refine ⟨fun m σ H => ∃ W2 env2 S2, Le W W2 ∧ Wd X.K W2 H S2 ∧ Re X.K W2 σ env2 ∧ whlL (evT Φ Γ t) f m env2 S2 = some r, ⟨n, W, env, S, .refl _, wd, re, e⟩, ?_⟩
  rintro m σ2 H2 ⟨W2, env2, S2, le2, wd2, re2, e2⟩
  cases m with
  | zero => cases e2
  | succ m =>
    unfold whlL at e2
    have et : evT Φ Γ t env2 S2 = match ev Φ Γ t env2 S2 with
        | none => none
        | some (a, S1) => (tru S1 a).map fun c => (c, S1) := rfl
    cases e3 : ev Φ Γ t env2 S2 with
    | none =>
      simp only [e3] at et
      rw [et] at e2
      cases e2
    | some z =>
      obtain ⟨a, S3⟩ := z
      simp only [e3] at et
      cases e4 : tru S3 a with
      | none =>
        rw [e4] at et
        rw [et] at e2
        cases e2
      | some k =>
        rw [e4] at et
        rw [et] at e2
        simp only [Option.map_some] at e2
        refine ⟨W2, env2, S2, a, S3, k, wd2, re2, e3, e4, fun W3 H3 le3 wd3 => ?_⟩
        have l3 := le2.trans le3
        cases k with
        | false =>
          simp only at e2
          cases e2
          exact iteF (q W3 σ2 H3 l3 wd3 (re2.le le3))
        | true =>
          refine iteT ⟨fun σ' H' => ∃ W2 env2 S2, Le W W2 ∧ Wd X.K W2 H' S2 ∧ Re X.K W2 σ' env2 ∧ whlL (evT Φ Γ t) f m env2 S2 = some r, fun σ' H' h => ⟨m, Nat.lt_succ_self m, h⟩, ?_⟩
          simp only at e2
          have ef : f env2 S3 = (exs Φ Γ b env2 S3).map fun r => (r.1, wipeE r.2.1 wl, r.2.2) := by rw [← hf]
          cases ex' : exs Φ Γ b env2 S3 with
          | none =>
            rw [ex'] at ef
            simp only [ef, Option.map_none] at e2
            cases e2
          | some r5 =>
            rw [ex'] at ef
            simp only [Option.map_some] at ef
            rw [ef] at e2
            refine ⟨W3, env2, S3, r5, wd3, re2.le le3, ex', ?_⟩
            obtain ⟨fl, env5, S5⟩ := r5
            cases fl with
            | nx => exact fun W5 σ5 H5 le5 wd5 re5 => ⟨W5, _, S5, l3.trans le5, wd5, re5.forgetAll wl, e2⟩
            | ct => exact fun W5 σ5 H5 le5 wd5 re5 => ⟨W5, _, S5, l3.trans le5, wd5, re5.forgetAll wl, e2⟩
            | bk =>
              cases e2
              exact fun W5 σ5 H5 le5 wd5 re5 => q W5 σ5 H5 (l3.trans le5) wd5 (re5.forgetAll wl)
            | rt a =>
              cases e2
              exact fun W5 v H5 le5 wd5 r5 => q W5 v H5 (l3.trans le5) wd5 r5
end
end PV

/-! PV17: every statement that agrees with the text is sound. -/
namespace PV
open PySem PySem.Spec PyProof.Rows L2
section
variable {nm : Nm} {Φ : List Fs} {Γ : List PyData} {lv : Nat} {X : Cx}
theorem sw_eq {elt : Expr} {gs : List Comprehension} {scope : Scope} {p px : Pos} {x : Str} {l : Nat} (hk : X.env.scope.kind = .function) : swapsWith (.ListComp elt gs scope p) (some (.Name x px)) l X.env = pure (swB X.env.scope x px (.ListComp elt gs scope p)) := by
  have hb : X.env.blockKind = .function := by unfold Env.blockKind; rw [hk]; rfl
  unfold swapsWith swB
  simp only [hb]
  rfl
theorem swO_eq {ts vs : List Expr} {k k2 : Nat} {p p2 : Pos} {o : Option (List Str)} (hk : X.env.scope.kind = .function) (h : swO X.env.scope ts vs = some o) : swappedStores [.Tuple ts k p] (.Tuple vs k2 p2) X.env = pure o := by
  have hb : X.env.blockKind = .function := by unfold Env.blockKind; rw [hk]; rfl
  unfold swO at h
  unfold swappedStores
  simp only [hb, bne_self_eq_false, Bool.or_false]
  split at h
  · rename_i h1
    cases h
    simp only [h1, if_true]
  · rename_i h1
    refine (if_neg (by exact h1)).trans ?_
    split at h
    · rename_i h2
      cases h
      exact if_pos (by exact h2)
    · rename_i h2
      refine (if_neg (by exact h2)).trans ?_
      simp only at h
      split at h
      · rename_i h3
        cases h
        exact if_pos (by exact h3)
      · rename_i h3
        refine (if_neg (by exact h3)).trans ?_
        split at h
        · rename_i h4
          cases h
          exact if_pos h4
        · rename_i h4
          refine (if_neg h4).trans ?_
          split at h
          · cases h
          · rename_i h5
            cases h
            exact if_neg h5
theorem isLoc0_ok {sc : Scope} {x : Str} (h : isLoc0 sc x = true) : sc.names.lookup x = some .local := by
  unfold isLoc0 at h
  exact eq_of_beq h
theorem locT {ow : Str → Bool} {i : Nat} {x : Str} {px : Pos} (h : agT nm X.N X.env.scope ow true (.nm i) (.Name x px) = true) : X.N[i]? = some x := by
  simp only [agT, Bool.and_eq_true, decide_eq_true_eq] at h
  exact h.1
theorem q_par2 {i j : Nat} {es : Exs} {x y : Str} {a b : Expr} {px py pt pt2 pos : Pos} {k k2 : Nat} (at_ : At nm Φ Γ lv X) (hk : X.env.scope.kind = .function) (hi : X.N[i]? = some x) (hj : X.N[j]? = some y) (hij : i ≠ j) (hx : isLoc0 X.env.scope x = true) (hy : isLoc0 X.env.scope y = true)
    (hw : swO X.env.scope [.Name x px, .Name y py] [a, b] = some (some [x, y])) (ha : PA X [a, b] (rdA X.K Φ Γ es)) : PS X (.Assign [.Tuple [.Name x px, .Name y py] k pt] (.Tuple [a, b] k2 pt2) pos) (rdS X.K Φ Γ (.par (.cons (.nm i) (.cons (.nm j) .nil)) es)) := by
  refine PS_imp (ps_par at_.calm at_.nd hi hj hij (isLoc0_ok hx) (isLoc0_ok hy) ha (swO_eq hk hw) rfl) fun D σ H ⟨W, env, S, r, wd, re, e, q⟩ => ?_
  simp only [ex] at e
  split at e
  · cases e
  · rename_i as S1 e1
    cases e2 : bnds Φ Γ (.cons (.nm i) (.cons (.nm j) .nil)) as env S1 with
    | none =>
      rw [e2] at e
      cases e
    | some z =>
      rw [e2] at e
      cases e
      simp only [bnds, bnd] at e2
      split at e2
      · cases e2
      · rename_i a1 as1
        split at e2
        · cases e2
        · rename_i a2 as2
          split at e2
          · cases e2
            refine ⟨W, env, S, _, S1, wd, re, e1, fun W1 vs H1 le1 wd1 ra => ?_⟩
            cases ra with
            | cons r1 t =>
              cases t with
              | cons r2 t =>
                cases t
                exact ⟨_, _, rfl, q W1 _ H1 le1 wd1 (((re.le le1).set i r1).set j r2)⟩
          · cases e2
theorem q_par3 {i j l : Nat} {es : Exs} {x y z : Str} {a b c : Expr} {px py pz pt pt2 pos : Pos} {k k2 : Nat} (at_ : At nm Φ Γ lv X) (hk : X.env.scope.kind = .function) (hi : X.N[i]? = some x) (hj : X.N[j]? = some y) (hl : X.N[l]? = some z) (hij : i ≠ j) (hil : i ≠ l) (hjl : j ≠ l) (hx : isLoc0 X.env.scope x = true) (hy : isLoc0 X.env.scope y = true) (hz : isLoc0 X.env.scope z = true)
    (hw : swO X.env.scope [.Name x px, .Name y py, .Name z pz] [a, b, c] = some (some [x, y, z])) (ha : PA X [a, b, c] (rdA X.K Φ Γ es)) : PS X (.Assign [.Tuple [.Name x px, .Name y py, .Name z pz] k pt] (.Tuple [a, b, c] k2 pt2) pos) (rdS X.K Φ Γ (.par (.cons (.nm i) (.cons (.nm j) (.cons (.nm l) .nil))) es)) := by
  refine PS_imp (ps_par3 at_.calm at_.nd hi hj hl hij hil hjl (isLoc0_ok hx) (isLoc0_ok hy) (isLoc0_ok hz) ha (swO_eq hk hw) rfl) fun D σ H ⟨W, env, S, r, wd, re, e, q⟩ => ?_
  simp only [ex] at e
  split at e
  · cases e
  · rename_i as S1 e1
    cases e2 : bnds Φ Γ (.cons (.nm i) (.cons (.nm j) (.cons (.nm l) .nil))) as env S1 with
    | none =>
      rw [e2] at e
      cases e
    | some z =>
      rw [e2] at e
      cases e
      simp only [bnds, bnd] at e2
      split at e2
      · cases e2
      · split at e2
        · cases e2
        · split at e2
          · cases e2
          · split at e2
            · cases e2
              refine ⟨W, env, S, _, S1, wd, re, e1, fun W1 vs H1 le1 wd1 ra => ?_⟩
              cases ra with
              | cons r1 t =>
                cases t with
                | cons r2 t =>
                  cases t with
                  | cons r3 t =>
                    cases t
                    exact ⟨_, _, _, rfl, q W1 _ H1 le1 wd1 ((((re.le le1).set i r1).set j r2).set l r3)⟩
            · cases e2
theorem assignEach_len : ∀ (ys : List Expr) (env : Env), (assignEach ys env).length = ys.length
  | [], _ => rfl
  | y :: ys, env => by
    have ih := assignEach_len ys env
    cases y <;> (unfold assignEach; rw [List.length_cons, ih]; rfl)
theorem q_parT {ts : Tgs} {es : Exs} {ys xs : List Expr} {pt pt2 pos : Pos} {k k2 : Nat} {ow : Str → Bool} (at_ : At nm Φ Γ lv X) (hk : X.env.scope.kind = .function) (hl : xs.length ≤ 1000) (hyx : ys.length = xs.length) (hw : swO X.env.scope ys xs = some none) (ha' : agEs nm X.N X.env.scope ow es xs = true) (ht : agTs nm X.N X.env.scope ow true ts ys = true) (ha : PA X xs (rdA X.K Φ Γ es)) (hg : PGs X ys (rdGs X.K Φ Γ ts)) :
    PS X (.Assign [.Tuple ys k pt] (.Tuple xs k2 pt2) pos) (rdS X.K Φ Γ (.par ts es)) := by
  obtain ⟨l1, l2⟩ := assign_len (env := X.env) ht
  refine PS_imp (ps_asg (pe_tup ha) (pg_tup at_.calm hg l1 l2) rfl (swO_eq hk hw) rfl) fun D σ H ⟨W, env, S, r, wd, re, e, q⟩ => ?_
  simp only [ex] at e
  split at e
  · cases e
  · rename_i as S1 e1
    cases e2 : bnds Φ Γ ts as env S1 with
    | none =>
      rw [e2] at e
      cases e
    | some z =>
      rw [e2] at e
      cases e
      obtain ⟨env', S'⟩ := z
      have el := evs_len at_ e1 ha'
      refine ⟨W, env, S, as, S1, wd, re, e1, fun W1 vs H1 le1 wd1 ra => ⟨?_, fun p hn => ⟨p, vs, rfl, .inl (.inl upd_same), ?_, ?_⟩⟩⟩
      · rw [ra.length, el]
        exact Nat.le_of_lt (small1000 hl)
      · rw [ra.length, el, ← hyx]
        rw [← l1]
        exact (assignEach_len ys X.env).symm
      · have nF := wd1.freeF hn
        exact ⟨_, as, env, S1, env', S', wd1.pure hn, (re.le le1).le (.upd nF), ra.le (.upd nF), e2, fun W2 σ2 H2 le2 wd2 re2 _ => q W2 σ2 H2 ((le1.trans (.upd nF)).trans le2) wd2 re2⟩
/-! a comprehension into a plain name of its row -/
theorem n_of {e : Ex} (hd : ∀ env S a S', ev Φ Γ e env S = some (a, S') → ∃ ds, a = .d (.list ds)) : ∀ σ H Q, rdE X.K Φ Γ e σ H Q → rdN X.K Φ Γ e σ H Q := fun σ H Q ⟨W, env, S, a, S', wd, re, e1, q⟩ => by
  obtain ⟨ds, rfl⟩ := hd _ _ _ _ e1
  refine ⟨W, env, S, ds, S', wd, re, e1, fun W1 p vs H1 le1 wd1 nF nr nG hp r => ?_⟩
  exact q ⟨upd W1.F p (.lst vs), W1.ρ, W1.G⟩ _ H1 (le1.trans (.upd nF)) (wd1.keep hp nF nr nG) (.lst upd_same (r.le (leF_upd nF)))
theorem f_of {e : Ex} : ∀ σ H Q, rdE X.K Φ Γ (.fresh e) σ H Q → rdN X.K Φ Γ e σ H Q := fun σ H Q ⟨W, env, S, a, S', wd, re, e1, q⟩ => by
  simp only [ev] at e1
  split at e1
  · rename_i x S1 e2
    split at e1
    · rename_i o eo
      cases e1
      unfold newOb at eo
      split at eo
      · rename_i ds
        cases eo
        refine ⟨W, env, S, ds, S1, wd, re, e2, fun W1 p vs H1 le1 wd1 nF nr nG hp r => ?_⟩
        refine q ⟨W1.F, W1.ρ ++ [p], W1.G⟩ _ H1 (le1.trans .newOb) (wd1.newOb nr nG ⟨vs, hp, r, by simpa using nF⟩) ⟨p, ?_, rfl⟩
        show (W1.ρ ++ [p])[S1.length]? = some p
        rw [← wd1.len]
        simp
      · cases eo
    · cases e1
  · cases e1
theorem lc_name {e : Ex} {i : Nat} {y : Str} {py : Pos} {x : Expr} {gs : List Comprehension} {scope : Scope} {pos spos : Pos} {ow : Str → Bool} (at_ : At nm Φ Γ lv X) (how : ∀ x, ow x = true → X.fn x = true) (hk : X.env.scope.kind = .function) (hy : X.N[i]? = some y) (hyl : isLoc0 X.env.scope y = true) (hsw : swB X.env.scope y py (.ListComp x gs scope pos) = true)
    (h : agE nm X.N X.env.scope ow e (.ListComp x gs scope pos) = true) : PS X (.Assign [.Name y py] (.ListComp x gs scope pos) spos) (rdS X.K Φ Γ (.asg (.nm i) e)) := by
  have core : ∀ {t : Tg} {it : Itx} {ifs : Exs} {a : Ex}, agE nm X.N X.env.scope ow (.comp t it ifs a) (.ListComp x gs scope pos) = true → (∀ σ H Q, rdE X.K Φ Γ e σ H Q → rdN X.K Φ Γ (.comp t it ifs a) σ H Q) → PS X (.Assign [.Name y py] (.ListComp x gs scope pos) spos) (rdS X.K Φ Γ (.asg (.nm i) e)) := fun {t it ifs a} h imp => by
    simp only [agE] at h
    split at h
    · rename_i heq
      injection heq with z1 z2 z3 z4
      subst z1 z2 z3 z4
      simp only [Bool.and_eq_true, decide_eq_true_eq] at h
      obtain ⟨⟨⟨⟨⟨⟨rfl, hb⟩, h1⟩, h2⟩, h3⟩, h4⟩, h5⟩ := h
      have q1 := i_s it X ow _ _ at_ how h1
      have pg := fun (s : Shared) (H : Hp) (C : Addr) (cl : List (Str × Addr)) (fp : List Addr) => t_s t (X.blk s H scope (compEnvC scope cl C X.env) fp) _ _ _ (at_.blk ..) (fun _ z => z) h2
      have pt := fun (s : Shared) (H : Hp) (C : Addr) (cl : List (Str × Addr)) (fp : List Addr) => ((es_s ifs (X.blk s H scope (compEnvC scope cl C X.env) fp) _ (at_.blk ..) (fun _ z => z)).1 _ h4).2.2.2.2.2
      have pe := fun (s : Shared) (H : Hp) (C : Addr) (cl : List (Str × Addr)) (fp : List Addr) => (e_s a (X.blk s H scope (compEnvC scope cl C X.env) fp) _ _ (at_.blk ..) (fun _ z => z) h5).1
      have n := c_compN (pos := pos) at_ hb q1.1 pg pt pe q1.2
      refine PS_imp (ps_setLc (g := rdG X.K Φ Γ t) (tt := rdTs X.K Φ Γ ifs) (te := rdE X.K Φ Γ a) at_.calm at_.nd hy (isLoc0_ok hyl) (by rw [sw_eq hk, hsw]) q1.1 (blkOk_by hb) pg pt pe q1.2) fun D σ H rd => ?_
      refine n.1 _ _ _ (imp _ _ _ ?_)
      obtain ⟨W, env, S, r, wd, re, e, q⟩ := rd
      simp only [ex] at e
      split at e
      · cases e
      · rename_i a' S1 e1
        simp only [bnd, Option.map_some] at e
        cases e
        exact ⟨W, env, S, a', S1, wd, re, e1, fun W1 v1 H1 le1 wd1 r1 => q W1 _ H1 le1 wd1 ((re.le le1).set i r1)⟩
    · cases h
  cases e with
  | comp t it ifs a => exact core h (n_of fun env S a S' => comp_d)
  | fresh e' =>
    simp only [agE, Bool.and_eq_true] at h
    cases e' with
    | comp t it ifs a => exact core (by simpa only [agE] using h.2) f_of
    | _ => first | (have h2 := h.2; simp [agE] at h2; done) | (have h1 := h.1; simp at h1; done)
  | _ => simp [agE] at h
/-! all of them -/
theorem swapRow (v : Expr) (x : Str) (p : Pos) (l : Nat) (env : Env) (h : plainVal v = true) : swapsWithSole [.Name x p] v l env = pure false := by cases v <;> first | rfl | cases h
theorem storeRow (v : Expr) (x : Str) (p : Pos) (env : Env) : swappedStores [.Name x p] v env = pure none := by cases v <;> rfl
theorem swapSub (v a b : Expr) (p : Pos) (l : Nat) (env : Env) : swapsWithSole [.Subscript a b p] v l env = pure false := by cases v <;> rfl
theorem storeSub (v a b : Expr) (p : Pos) (env : Env) : swappedStores [.Subscript a b p] v env = pure none := by cases v <;> rfl
theorem swapTup (v : Expr) (xs : List Expr) (k : Nat) (p : Pos) (l : Nat) (env : Env) : swapsWithSole [.Tuple xs k p] v l env = pure false := by cases v <;> rfl
theorem storeTup (v : Expr) (xs : List Expr) (k : Nat) (p : Pos) (env : Env) (h : isTupE v = false) : swappedStores [.Tuple xs k p] v env = pure none := by cases v <;> first | rfl | cases h
theorem nm_of {ow : Str → Bool} {t : Tg} {x : Str} {p : Pos} (h : agT nm X.N X.env.scope ow true t (.Name x p) = true) : ∃ i, t = .nm i ∧ X.N[i]? = some x := by
  cases t with
  | nm i => exact ⟨i, rfl, locT h⟩
  | tp ts => simp [agT] at h
  | sub o i => simp [agT] at h
variable {ow : Str → Bool} (at_ : At nm Φ Γ lv X) (how : ∀ x, ow x = true → X.fn x = true) (hk : X.env.scope.kind = .function) (hp : PassesOwn (model X.prog X.w) X.A X.env X.xe)
include at_ how hk hp
theorem agts_nm {i : Nat} {ts : Tgs} {x : Str} {p : Pos} {ys : List Expr} (h : agTs nm X.N X.env.scope ow true (.cons (.nm i) ts) (.Name x p :: ys) = true) : X.N[i]? = some x ∧ agTs nm X.N X.env.scope ow true ts ys = true := by
  simp only [agTs, Bool.and_eq_true] at h
  exact ⟨locT h.1.2, h.2⟩
theorem two_of {a b : Expr} {xs : List Expr} (h : [a, b].length = xs.length) : ∃ c d, xs = [c, d] := by
  match xs, h with
  | [c, d], _ => exact ⟨c, d, rfl⟩
theorem three_of {a b c : Expr} {xs : List Expr} (h : [a, b, c].length = xs.length) : ∃ d e f, xs = [d, e, f] := by
  match xs, h with
  | [d, e, f], _ => exact ⟨d, e, f, rfl⟩
theorem par_s {ts : Tgs} {es : Exs} {ys xs : List Expr} {pt pt2 pos : Pos} {k k2 : Nat} (h1 : agTs nm X.N X.env.scope ow true ts ys = true) (h2 : agEs nm X.N X.env.scope ow es xs = true) (h3 : ys.length = xs.length) (h4 : agP X.env.scope ts ys xs = true) : PS X (.Assign [.Tuple ys k pt] (.Tuple xs k2 pt2) pos) (rdS X.K Φ Γ (.par ts es)) := by
  have pa := ((es_s es X ow at_ how).1 _ h2).1
  unfold agP at h4
  split at h4
  · cases h4
  · rename_i hw
    exact q_parT at_ hk (by simpa using h4) h3 hw h2 h1 pa (ts_s ts X ow true _ at_ how h1)
  · split at h4
    · split at h4
      · simp only [Bool.and_eq_true, decide_eq_true_eq] at h4
        obtain ⟨a1, h1⟩ := agts_nm at_ how hk hp h1
        obtain ⟨a2, h1⟩ := agts_nm at_ how hk hp h1
        obtain ⟨c, d, rfl⟩ := two_of at_ how hk hp h3
        exact q_par2 at_ hk a1 a2 h4.1.1.1 h4.1.1.2 h4.1.2 h4.2 pa
      · cases h4
    · split at h4
      · simp only [Bool.and_eq_true, decide_eq_true_eq] at h4
        obtain ⟨a1, h1⟩ := agts_nm at_ how hk hp h1
        obtain ⟨a2, h1⟩ := agts_nm at_ how hk hp h1
        obtain ⟨a3, h1⟩ := agts_nm at_ how hk hp h1
        obtain ⟨c, d, e, rfl⟩ := three_of at_ how hk hp h3
        exact q_par3 at_ hk a1 a2 a3 h4.1.1.1.1.1.1 h4.1.1.1.1.1.2 h4.1.1.1.1.2 h4.1.1.1.2 h4.1.1.2 h4.1.2 h4.2 pa
      · cases h4
    · cases h4
theorem asg_s {t : Tg} {e : Ex} {x : Str} {p pos : Pos} {v : Expr} (hv : (match v with | .ListComp _ _ _ _ => true | v => plainVal v) = true) (h1 : agT nm X.N X.env.scope ow true t (.Name x p) = true) (h2 : agE nm X.N X.env.scope ow e v = true) : PS X (.Assign [.Name x p] v pos) (rdS X.K Φ Γ (.asg t e)) := by
  have pe := (e_s e X ow v at_ how h2).1
  have pg := t_s t X ow true _ at_ how h1
  split at hv
  · rename_i elt gs scope vp
    by_cases hs : swB X.env.scope x p (.ListComp elt gs scope vp) = true
    · obtain ⟨i, rfl, hi⟩ := nm_of h1
      have hl : isLoc0 X.env.scope x = true := by
        unfold swB at hs
        simp only [Bool.and_eq_true] at hs
        exact hs.1.1
      exact lc_name at_ how hk hi hl hs h2
    · have hf : swB X.env.scope x p (.ListComp elt gs scope vp) = false := by simpa using hs
      exact q_asg ((sw_eq (X := X) (elt := elt) (gs := gs) (scope := scope) (p := vp) (px := p) (x := x) (l := pos.line) hk).trans (by rw [hf])) (storeRow ..) rfl pe pg
  · exact q_asg (swapRow _ _ _ _ _ hv) (storeRow ..) rfl pe pg
mutual
theorem s_s : ∀ (s : Sx) (x : Stmt), agS nm X.N X.env.scope ow s x = true → PS X x (rdS X.K Φ Γ s)
  | .asg t e, x, h => by
    simp only [agS] at h
    split at h
    · simp only [Bool.and_eq_true] at h
      exact asg_s at_ how hk hp h.1.1 h.1.2 h.2
    · simp only [Bool.and_eq_true] at h
      exact q_asg (swapSub ..) (storeSub ..) rfl (e_s e X ow _ at_ how h.2).1 (t_s t X ow true _ at_ how h.1)
    · simp only [Bool.and_eq_true, Bool.not_eq_true'] at h
      exact q_asg (swapTup ..) (storeTup _ _ _ _ _ h.1.1) rfl (e_s e X ow _ at_ how h.2).1 (t_s t X ow true _ at_ how h.1.2)
    · cases h
  | .par ts es, x, h => by
    simp only [agS] at h
    split at h
    · simp only [Bool.and_eq_true, decide_eq_true_eq] at h
      exact par_s at_ how hk hp h.1.1.1 h.1.1.2 h.1.2 h.2
    · cases h
  | .app o e, x, h => by
    simp only [agS] at h
    split at h
    · simp only [Bool.and_eq_true, decide_eq_true_eq] at h
      obtain ⟨⟨⟨⟨⟨rfl, h1⟩, h2⟩, h3⟩, h4⟩, h5⟩ := h
      exact q_app h1 h2 h3 (e_s o X ow _ at_ how h4).1 (e_s e X ow _ at_ how h5).1
    · cases h
  | .ifs t a b, x, h => by
    simp only [agS] at h
    split at h
    · simp only [Bool.and_eq_true] at h
      exact q_if (e_s t X ow _ at_ how h.1.1).2.1 (ss_s a _ h.1.2) (ss_s b _ h.2)
    · cases h
  | .for_ t it b wl, x, h => by
    simp only [agS] at h
    split at h
    · simp only [Bool.and_eq_true] at h
      obtain ⟨q1, q2⟩ := i_s it X ow _ _ at_ how h.1.1.2
      exact q_for hp at_.calm q1 (t_s t X ow false _ at_ how h.1.2) (ss_s b _ h.2) q2
    · cases h
  | .whl n t b wl, x, h => by
    simp only [agS] at h
    split at h
    · simp only [Bool.and_eq_true] at h
      exact q_whl hp (e_s t X ow _ at_ how h.1).2.1 (ss_s b _ h.2)
    · cases h
  | .ret e, x, h => by
    simp only [agS] at h
    split at h
    · exact q_ret (e_s e X ow _ at_ how h).1
    · cases h
  | .retO e, x, h => by
    simp only [agS] at h
    split at h
    · exact q_retO (e_s e X ow _ at_ how h).1
    · cases h
  | .ret0, x, h => by
    simp only [agS] at h
    split at h
    · exact q_ret0
    · cases h
  | .exp e, x, h => by
    simp only [agS] at h
    split at h
    · simp only [Bool.and_eq_true] at h
      exact q_exp h.1 (e_s e X ow _ at_ how h.2).1
    · cases h
  | .brk, x, h => by
    simp only [agS] at h
    split at h
    · exact q_brk
    · cases h
  | .cnt, x, h => by
    simp only [agS] at h
    split at h
    · exact q_cnt
    · cases h
  | .pas, x, h => by
    simp only [agS] at h
    split at h
    · exact q_pas
    · cases h
theorem ss_s : ∀ (ss : Ss) (xs : List Stmt), agSs nm X.N X.env.scope ow ss xs = true → PSs X xs (rdSs X.K Φ Γ ss)
  | .nil, xs, h => by
    simp only [agSs] at h
    split at h
    · exact q_nil
    · cases h
  | .cons s ss, xs, h => by
    simp only [agSs] at h
    split at h
    · simp only [Bool.and_eq_true] at h
      exact q_cons (s_s s _ h.1) (ss_s ss _ h.2)
    · cases h
end
end
end PV

/-! PV18: defs, the law's end. -/
namespace PV
open PySem PySem.Spec PyProof.Rows L2
/-- a def: name, text, parameters, slots, term -/
structure Df where
  nm : Str
  st : Stmt
  np : Nat
  N : List Str
  b : Ss
def Df.ps (d : Df) : List Str := d.N.take d.np
def nmOf (ds : List Df) (gl : List Str) : Nm := ⟨ds.map fun d => (d.nm, d.np), gl⟩
def Ph (Γ : List PyData) (ds : List Df) : Nat → List Fs
  | 0 => ds.map fun _ _ _ => none
  | k + 1 => ds.map fun d => run (Ph Γ ds k) Γ d.N.length d.b
def scOk (N P : List Str) (sc : Scope) : Bool :=
  decide (sc.kind = .function) && !sc.isCoroutine && !sc.isGenerator && decide N.Nodup && decide (N.take P.length = P) && P.all (fun x => decide (sc.names.lookup x = some .local) || decide (sc.names.lookup x = some .cell)) && sc.names.all (fun y => !decide (y.2 = .free))
theorem fnScope_of {N P : List Str} {sc : Scope} (h : scOk N P sc = true) : FnScope N P sc := by
  unfold scOk at h
  simp only [Bool.and_eq_true, Bool.not_eq_true', decide_eq_true_eq, List.all_eq_true, Bool.or_eq_true, decide_eq_false_iff_not] at h
  obtain ⟨⟨⟨⟨⟨⟨h1, h2⟩, h3⟩, h4⟩, h5⟩, h6⟩, h7⟩ := h
  exact ⟨h1, h2, h3, h4, h5, h6, h7⟩
def dfOk (nm : Nm) (d : Df) : Bool := decide (d.np ≤ d.N.length) && scOk d.N d.ps (defScope d.st) && agSs nm d.N (defScope d.st) (fun _ => true) d.b (defBody d.st)
section
variable {P : Program} {w : World} {K : PySem.W.Frag} {mg : Str → Option Value} {base : Heap} {Γ : List PyData} {ds : List Df} {gl : List Str}
/-- a def is there -/
def Is (K : PySem.W.Frag) (mg : Str → Option Value) (d : Df) : Prop := ∃ f fd, mg d.nm = some (.ref f) ∧ Fun K d.nm d.nm d.st f fd ∧ Binds K fd d.ps []
def Bs (mg : Str → Option Value) : Prop := ∀ x ∈ bltNames, mg x = none
def Gs (K : PySem.W.Frag) (mg : Str → Option Value) (Γ : List PyData) (gl : List Str) : Prop := ∀ (i : Nat) (x : Str), gl[i]? = some x → ∃ u v d, Γ[i]? = some d ∧ mg x = some u ∧ RelV v u ∧ ∀ F, Rp K F v d
def Mo (P : Program) (w : World) (K : PySem.W.Frag) (mg : Str → Option Value) (base : Heap) (Γ : List PyData) (ds : List Df) (k : Nat) : Prop := ∀ (i : Nat) (d : Df), ds[i]? = some d → ∃ m f fd, (Ph Γ ds k)[i]? = some m ∧ Fun K d.nm d.nm d.st f fd ∧ mg d.nm = some (.ref f) ∧ PySem.W.keepIn K (.ref f) = true ∧ FnOk P w K mg base CX0 k f fd d.ps (spF K d.np m) ∧ Binds K fd d.ps []
theorem run_ok {nm : Nm} {Φ : List Fs} {n : Nat} {N ps : List Str} {sc : Scope} {b : Ss} {x : List Stmt} {X : Cx} {vs : List V} {H : Hp} {Q : VK} (hN : N.length = n) (h : PSs X x (rdSs X.K Φ Γ b)) (sp : ∃ W S as r S', Wd X.K W H S ∧ RaA X.K W vs as ∧ run Φ Γ n b as S = some (r, S') ∧ Kt X.K W S' r Q) :
    rdSs X.K Φ Γ b { nx := fun _ H' => Q .non H', rt := Q } (L2.start N vs) H := by
  obtain ⟨W, S, as, r, S', wd, ra, e, q⟩ := sp
  unfold run at e
  have re : Re X.K W (L2.start N vs) (as.map some ++ List.replicate (n - as.length) none) := by
    unfold L2.start
    rw [hN, ra.length]
    exact Re.start ra _
  split at e
  · rename_i a env S1 e1
    cases e
    exact ⟨W, _, S, _, wd, re, e1, fun W' v H' le wd' r' => q W' v H' le wd' r'⟩
  · rename_i env S1 e1
    cases e
    exact ⟨W, _, S, _, wd, re, e1, fun W' σ' H' le wd' r' => q W' .non H' le wd' .non⟩
  · cases e
theorem mo_ok (hds : ∀ (i : Nat) (d : Df), ds[i]? = some d → Is K mg d) (hb : Bs mg) (hg : Gs K mg Γ gl) (hok : ds.all (dfOk (nmOf ds gl)) = true) : ∀ k, Mo P w K mg base Γ ds k
  | 0 => fun i d hd => by
    obtain ⟨f, fd, h1, h2, h3⟩ := hds i d hd
    refine ⟨fun _ _ => none, f, fd, by simp [Ph, hd], h2, h1, h2.kp, ⟨fun vs H Q E ⟨_, W, S, as, r, S', _, _, e, _⟩ => (by cases e), fun A outer s H args us vs Q E _ _ _ _ ⟨_, W, S, as, r, S', _, _, e, _⟩ => (by cases e)⟩, h3⟩
  | k + 1 => fun i d hd => by
    have ih := mo_ok hds hb hg hok k
    obtain ⟨f, fd, h1, h2, h3⟩ := hds i d hd
    have hdk : dfOk (nmOf ds gl) d = true := by
      rw [List.all_eq_true] at hok
      exact hok d (List.mem_of_getElem? hd)
    unfold dfOk at hdk
    simp only [Bool.and_eq_true, decide_eq_true_eq] at hdk
    obtain ⟨⟨q1, q2⟩, q3⟩ := hdk
    have S := fnScope_of q2
    have pl : d.ps.length = d.np := by
      unfold Df.ps
      rw [List.length_take]
      omega
    refine ⟨run (Ph Γ ds k) Γ d.N.length d.b, f, fd, by simp [Ph, hd], h2, h1, h2.kp, h2.ok S (fun vs H Q E ⟨e, _⟩ => by rw [e, pl]) fun cdv A outer s H vs Q E hr hsp => ?_, h3⟩
    have at_ : At (nmOf ds gl) (Ph Γ ds k) Γ k (cxOf CX0 P w K mg base d.N d.nm (defScope d.st) f cdv A outer s H E).nox := by
      refine ⟨rfl, S.nd, hr, fun j x n hj => ?_, hb, hg⟩
      unfold nmOf at hj
      simp only [List.getElem?_map, Option.map_eq_some_iff] at hj
      obtain ⟨d', hd', ee⟩ := hj
      cases ee
      obtain ⟨m, fA, fd', a1, _, a2, a3, a4, a5⟩ := ih j d' hd'
      exact ⟨m, fA, fd', d'.ps, a1, a2, a3, a4, a5⟩
    have ps := ss_s (ow := fun _ => true) at_ (fun _ _ => rfl) S.kind PassesOwn.never d.b (defBody d.st) q3
    exact ⟨_, ps, run_ok (nm := nmOf ds gl) (ps := d.ps) (sc := defScope d.st) rfl ps hsp.2⟩
/-- the law's end -/
def spL (K : PySem.W.Frag) : Sp := fun vs H Q _ => ∃ (a : Addr) (ns : List Int), vs = [.ref a] ∧ SqL K H a (ns.map V.int) ∧ ns.length ≤ 63 ∧ ∀ H', Q (.bl true) H'
theorem fun_one {x q : Str} {st : Stmt} {f : Addr} {fd fd' : FuncData} (a : Fun K x q st f fd) (b : Fun K x q st f fd') : fd = fd' := by
  obtain ⟨⟨_, _, _, _, _, _, _, _, _, _, l1, _⟩, _⟩ := a
  obtain ⟨⟨_, _, _, _, _, _, _, _, _, _, l2, _⟩, _⟩ := b
  rw [l1] at l2
  injection l2 with l2
  injection l2 with _ _ z _
  injection z
theorem law_ok {fa : Addr} {fd : FuncData} {i k : Nat} {d : Df} (hds : ∀ (i : Nat) (d : Df), ds[i]? = some d → Is K mg d) (hb : Bs mg) (hg : Gs K mg Γ gl) (hok : ds.all (dfOk (nmOf ds gl)) = true)
    (hd : ds[i]? = some d) (hp : d.ps = (["script"] : List Str)) (hF : Fun K d.nm d.nm d.st fa fd) (hfa : mg d.nm = some (.ref fa)) (hlaw : ∀ ns : List Int, ns.length ≤ 63 → ∃ m S, (Ph Γ ds k)[i]? = some m ∧ m [.seq ns] [] = some (.d (.bool true), S)) :
    FnOk P w K mg base CX0 k fa fd ["script"] (spL K) := by
  obtain ⟨m, f, fd', e1, eF, e2, e3, e4, e5⟩ := mo_ok (P := P) (w := w) (base := base) hds hb hg hok k i d hd
  rw [hfa] at e2
  cases e2
  cases fun_one hF eF
  rw [hp] at e4 e5
  refine e4.imp fun vs H Q E hs => ?_
  obtain ⟨a, ns, ev, hS, hl, q⟩ := hs
  subst ev
  obtain ⟨m', S', f1, f2⟩ := hlaw ns hl
  rw [e1] at f1
  cases f1
  have np : d.np = 1 := by
    have hdk : dfOk (nmOf ds gl) d = true := by
      rw [List.all_eq_true] at hok
      exact hok d (List.mem_of_getElem? hd)
    unfold dfOk at hdk
    simp only [Bool.and_eq_true, decide_eq_true_eq] at hdk
    have := congrArg List.length hp
    unfold Df.ps at this
    rw [List.length_take] at this
    have h1 := hdk.1.1
    simp at this
    omega
  refine ⟨by rw [np]; rfl, ⟨H, [], fun _ => none⟩, [], [.seq ns], _, S', ⟨fun b u e => .inl e, rfl, List.nodup_nil, fun k a o e => by simp at e, fun a u e => by cases e⟩, .cons ⟨a, rfl, hS⟩ .nil, f2, fun W' v H' le wd r => ?_⟩
  cases r
  exact q H'
end
end PV

/-! PV19: the terms at work: the rows that compute. -/
namespace PV
open PySem PySem.Spec PyProof.Rows L2

/-! the rows that compute -/
section
variable (Φ : List Fs) (Γ : List PyData) (env : En) (S : Sto)
def cF (t : Tg) (ifs : Exs) (e : Ex) (env0 : En) : PyData → Sto → Option (Option PyData × Sto) := fun x S2 => match bnd Φ Γ t (.d x) env0 S2 with
        | none => none
        | some (env1, S3) => match evTs Φ Γ ifs env1 S3 with
          | none => none
          | some (false, S4) => some (none, S4)
          | some (true, S4) => match ev Φ Γ e env1 S4 with
            | none => none
            | some (y, S5) => match frz S5 y with
              | none => none
              | some (z, S6) => some (some z, S6)
theorem ev_comp (t : Tg) (it : Itx) (ifs : Exs) (e : Ex) : ev Φ Γ (.comp t it ifs e) env S = match evI Φ Γ it env S with
    | none => none
    | some (xs, S1) => match compL (cF Φ Γ t ifs e (wipeE env t.slots)) xs S1 with
      | none => none
      | some (ys, S2) => some (.d (.list ys), S2) := by
  rw [ev]
  rfl
def fF (t : Tg) (b : Ss) (wl : List Nat) : PyData → En → Sto → Option (Fl × En × Sto) := fun x env S => match bnd Φ Γ t (.d x) env S with
        | none => none
        | some (env1, S1) => (exs Φ Γ b env1 S1).map fun r => (r.1, wipeE r.2.1 wl, r.2.2)
theorem ex_for (t : Tg) (it : Itx) (b : Ss) (wl : List Nat) : ex Φ Γ (.for_ t it b wl) env S = match evI Φ Γ it env S with
    | none => none
    | some (xs, S1) => forL (fF Φ Γ t b wl) xs env S1 := by
  rw [ex]
  rfl
def wF (b : Ss) (wl : List Nat) : En → Sto → Option (Fl × En × Sto) := fun env S => (exs Φ Γ b env S).map fun r => (r.1, wipeE r.2.1 wl, r.2.2)
theorem ex_whl (n : Nat) (t : Ex) (b : Ss) (wl : List Nat) : ex Φ Γ (.whl n t b wl) env S = whlL (evT Φ Γ t) (wF Φ Γ b wl) n env S := by
  rw [ex]
  rfl
theorem evT_some {t : Ex} {a : A} {S1 : Sto} (h : ev Φ Γ t env S = some (a, S1)) : evT Φ Γ t env S = (tru S1 a).map fun c => (c, S1) := by
  unfold evT
  rw [h]
@[simp] theorem deref_d (x : PyData) : deref S (.d x) = some x := rfl
@[simp] theorem tru_bool (b : Bool) : tru S (.d (.bool b)) = some b := rfl
@[simp] theorem tru_int (i : Int) : tru S (.d (.int i)) = some (i != 0) := rfl
@[simp] theorem tru_none : tru S (.d .none) = some false := rfl
@[simp] theorem tru_list (xs : List PyData) : tru S (.d (.list xs)) = some (!xs.isEmpty) := rfl
@[simp] theorem tru_tuple (xs : List PyData) : tru S (.d (.tuple xs)) = some (!xs.isEmpty) := rfl
@[simp] theorem binF_d (o : Operator) (x y : PyData) : binF o (.d x) (.d y) S = (binD o x y).map .d := rfl
@[simp] theorem cmpF_eq (x y : PyData) : cmpF .Eq (.d x) (.d y) S = eqvD x y := rfl
@[simp] theorem cmpF_ne (x y : PyData) : cmpF .NotEq (.d x) (.d y) S = (eqvD x y).map (!·) := rfl
@[simp] theorem cmpF_lt (x y : PyData) : cmpF .Lt (.d x) (.d y) S = ltD x y := rfl
@[simp] theorem cmpF_le (i j : Int) : cmpF .LtE (.d (.int i)) (.d (.int j)) S = some (decide (i ≤ j)) := rfl
@[simp] theorem cmpF_gt (i j : Int) : cmpF .Gt (.d (.int i)) (.d (.int j)) S = some (decide (j < i)) := rfl
@[simp] theorem cmpF_ge (i j : Int) : cmpF .GtE (.d (.int i)) (.d (.int j)) S = some (decide (j ≤ i)) := rfl
@[simp] theorem cmpF_in (x y : PyData) : cmpF .In (.d x) (.d y) S = inD x y := rfl
@[simp] theorem cmpF_nin (x y : PyData) : cmpF .NotIn (.d x) (.d y) S = (inD x y).map (!·) := rfl
@[simp] theorem cmpF_is (a : A) (y : PyData) : cmpF .Is a (.d y) S = isD a y := rfl
@[simp] theorem cmpF_isn (a : A) (y : PyData) : cmpF .IsNot a (.d y) S = (isD a y).map (!·) := rfl
@[simp] theorem ltD_int (i j : Int) : ltD (.int i) (.int j) = some (decide (i < j)) := by
  unfold ltD okLt
  simp [PySem.W.alike, noDic, notNone, PyData.depth, ltB]
@[simp] theorem eqvD_int (i j : Int) : eqvD (.int i) (.int j) = some (decide (i = j)) := by
  have h : PyData.eqv (.int i) (.int j) = decide (i = j) := by
    rw [Bool.eq_iff_iff]
    simp [PyData.eqv]
  unfold eqvD okEq
  simp [atomD, h]
@[simp] theorem eqvD_str (i j : Str) : eqvD (.str i) (.str j) = some (decide (i = j)) := by
  have h : PyData.eqv (.str i) (.str j) = decide (i = j) := by
    rw [Bool.eq_iff_iff]
    simp [PyData.eqv]
  unfold eqvD okEq
  simp [atomD, h]
@[simp] theorem eqvD_bool (i j : Bool) : eqvD (.bool i) (.bool j) = some (decide (i = j)) := by
  unfold eqvD okEq
  cases i <;> cases j <;> simp [atomD, PyData.eqv]
@[simp] theorem ixF_d (x i : PyData) : ixF (.d x) (.d i) S = (ixD x i).map .d := rfl
theorem ixF_tup (xs : List PyData) (i : PyData) : ixF (.d (.tuple xs)) (.d i) S = (ixD (.tuple xs) i).map .d := rfl
@[simp] theorem frz_d (x : PyData) : frz S (.d x) = some (x, S) := rfl
@[simp] theorem frzAll_nil : frzAll [] S = some ([], S) := rfl
@[simp] theorem frzAll_d (x : PyData) (as : List A) : frzAll (.d x :: as) S = match frzAll as S with
    | none => none
    | some (xs, S2) => some (x :: xs, S2) := rfl
theorem ty_ll : (Ty.list == Ty.list) = true := rfl
theorem ty_lt : (Ty.list == Ty.tuple) = false := rfl
theorem ty_ls : (Ty.list == Ty.str) = false := rfl
theorem ty_li : (Ty.list == Ty.int) = false := rfl
theorem ty_lb : (Ty.list == Ty.bool) = false := rfl
theorem ty_tl : (Ty.tuple == Ty.list) = false := rfl
theorem ty_tt : (Ty.tuple == Ty.tuple) = true := rfl
theorem ty_ts : (Ty.tuple == Ty.str) = false := rfl
theorem ty_ti : (Ty.tuple == Ty.int) = false := rfl
theorem ty_tb : (Ty.tuple == Ty.bool) = false := rfl
theorem ty_sl : (Ty.str == Ty.list) = false := rfl
theorem ty_st : (Ty.str == Ty.tuple) = false := rfl
theorem ty_ss : (Ty.str == Ty.str) = true := rfl
theorem ty_si : (Ty.str == Ty.int) = false := rfl
theorem ty_sb : (Ty.str == Ty.bool) = false := rfl
theorem ty_il : (Ty.int == Ty.list) = false := rfl
theorem ty_it : (Ty.int == Ty.tuple) = false := rfl
theorem ty_is : (Ty.int == Ty.str) = false := rfl
theorem ty_ii : (Ty.int == Ty.int) = true := rfl
theorem ty_ib : (Ty.int == Ty.bool) = false := rfl
theorem ty_bl : (Ty.bool == Ty.list) = false := rfl
theorem ty_bt : (Ty.bool == Ty.tuple) = false := rfl
theorem ty_bs : (Ty.bool == Ty.str) = false := rfl
theorem ty_bi : (Ty.bool == Ty.int) = false := rfl
theorem ty_bb : (Ty.bool == Ty.bool) = true := rfl
@[simp] theorem bltF_d (b : Bl) (x : PyData) : bltF b [.d x] S = (bltD b x).map .d := rfl
theorem bltF_dd (b : Bl) (x y : PyData) : bltF b [.d x, .d y] S = (bltD2 b x y).map .d := rfl
@[simp] theorem len_list (xs : List PyData) : lenD (.list xs) = some (xs.length : Int) := rfl
@[simp] theorem len_tuple (xs : List PyData) : lenD (.tuple xs) = some (xs.length : Int) := rfl
@[simp] theorem seqF_list (xs : List PyData) : seqF (.d (.list xs)) S = some (xs, S) := rfl
@[simp] theorem seqF_tuple (xs : List PyData) : seqF (.d (.tuple xs)) S = some (xs, S) := rfl
theorem rngF_ok {i j : Int} (h0 : 0 ≤ i) (h1 : j ≤ 16777216) (h2 : i ≤ 16777216) (h3 : 0 ≤ j) : rngF i j = some (rngD i (j - i).toNat) := by
  unfold rngF
  rw [if_pos (by omega)]
theorem rng_nat (n : Nat) (h : n ≤ 16777216) : rngF 0 (n : Int) = some ((List.range n).map fun k => PyData.int (k : Nat)) := by
  rw [rngF_ok (by omega) (by omega) (by omega) (by omega)]
  unfold rngD
  simp
end

section
variable (Φ : List Fs) (Γ : List PyData) (env : En) (S : Sto)
@[simp] theorem ev_var (i : Nat) : ev Φ Γ (.var i) env S = match env[i]? with
    | some (some a) => some (a, S)
    | _ => none := by
  first | (rw [ev]; done) | (rw [ev]; rfl)
@[simp] theorem ev_cst (c : PyData) : ev Φ Γ (.cst c) env S = some (.d c, S) := by
  first | (rw [ev]; done) | (rw [ev]; rfl)
theorem ev_glb (i : Nat) : ev Φ Γ (.glb i) env S = match Γ[i]? with
    | some x => some (.d x, S)
    | none => none := by
  first | (rw [ev]; done) | (rw [ev]; rfl)
@[simp] theorem ev_tup (es : Exs) : ev Φ Γ (.tup es) env S = match evs Φ Γ es env S with
    | none => none
    | some (as, S1) => match frzAll as S1 with
      | some (xs, S2) => some (.d (.tuple xs), S2)
      | none => match as with
        | [a, b] => some (.pr a b, S1)
        | _ => none := by
  first | (rw [ev]; done) | (rw [ev]; rfl)
@[simp] theorem ev_lst (es : Exs) : ev Φ Γ (.lst es) env S = match evs Φ Γ es env S with
    | none => none
    | some (as, S1) => match frzAll as S1 with
      | some (xs, S2) => some (.d (.list xs), S2)
      | none => none := by
  first | (rw [ev]; done) | (rw [ev]; rfl)
theorem ev_fresh (e : Ex) : ev Φ Γ (.fresh e) env S = match ev Φ Γ e env S with
    | some (.d x, S1) => match newOb x with
      | some o => some (.obj S1.length, S1 ++ [o])
      | none => none
    | _ => none := by
  first | (rw [ev]; done) | (rw [ev]; rfl)
@[simp] theorem ev_bin (o : Operator) (a b : Ex) : ev Φ Γ (.bin o a b) env S = match ev Φ Γ a env S with
    | none => none
    | some (x, S1) => match ev Φ Γ b env S1 with
      | none => none
      | some (y, S2) => (binF o x y S2).map fun c => (c, S2) := by
  first | (rw [ev]; done) | (rw [ev]; rfl)
@[simp] theorem ev_neg (a : Ex) : ev Φ Γ (.neg a) env S = match ev Φ Γ a env S with
    | some (.d (.int i), S1) => some (.d (.int (-i)), S1)
    | _ => none := by
  first | (rw [ev]; done) | (rw [ev]; rfl)
@[simp] theorem ev_cmp (o : CmpOp) (a b : Ex) : ev Φ Γ (.cmp o a b) env S = match ev Φ Γ a env S with
    | none => none
    | some (x, S1) => match ev Φ Γ b env S1 with
      | none => none
      | some (y, S2) => (cmpF o x y S2).map fun c => (.d (.bool c), S2) := by
  first | (rw [ev]; done) | (rw [ev]; rfl)
theorem ev_chn (o p : CmpOp) (a b c : Ex) : ev Φ Γ (.chn o p a b c) env S = match ev Φ Γ a env S with
    | none => none
    | some (x, S1) => match ev Φ Γ b env S1 with
      | none => none
      | some (y, S2) => match cmpF o x y S2 with
        | none => none
        | some false => some (.d (.bool false), S2)
        | some true => match ev Φ Γ c env S2 with
          | none => none
          | some (z, S3) => (cmpF p y z S3).map fun c => (.d (.bool c), S3) := by
  first | (rw [ev]; done) | (rw [ev]; rfl)
@[simp] theorem ev_and (es : Exs) : ev Φ Γ (.and es) env S = evAnd Φ Γ es env S := by
  first | (rw [ev]; done) | (rw [ev]; rfl)
@[simp] theorem ev_or (es : Exs) : ev Φ Γ (.or es) env S = evOr Φ Γ es env S := by
  first | (rw [ev]; done) | (rw [ev]; rfl)
@[simp] theorem ev_not (a : Ex) : ev Φ Γ (.not a) env S = match ev Φ Γ a env S with
    | none => none
    | some (x, S1) => (tru S1 x).map fun c => (.d (.bool !c), S1) := by
  first | (rw [ev]; done) | (rw [ev]; rfl)
@[simp] theorem ev_ite (t a b : Ex) : ev Φ Γ (.ite t a b) env S = match ev Φ Γ t env S with
    | none => none
    | some (x, S1) => match tru S1 x with
      | none => none
      | some true => ev Φ Γ a env S1
      | some false => ev Φ Γ b env S1 := by
  first | (rw [ev]; done) | (rw [ev]; rfl)
@[simp] theorem ev_ix (a i : Ex) : ev Φ Γ (.ix a i) env S = match ev Φ Γ a env S with
    | none => none
    | some (x, S1) => match ev Φ Γ i env S1 with
      | none => none
      | some (y, S2) => (ixF x y S2).map fun c => (c, S2) := by
  first | (rw [ev]; done) | (rw [ev]; rfl)
theorem ev_slc (a : Ex) (lo hi : Exs) : ev Φ Γ (.slc a lo hi) env S = match ev Φ Γ a env S with
    | none => none
    | some (x, S1) => match evOpt Φ Γ lo env S1 with
      | none => none
      | some (l, S2) => match evOpt Φ Γ hi env S2 with
        | none => none
        | some (h, S3) => match deref S3 x with
          | none => none
          | some y => (slcD y l h).map fun c => (.d c, S3) := by
  first | (rw [ev]; done) | (rw [ev]; rfl)
theorem ev_call (f : Nat) (es : Exs) : ev Φ Γ (.call f es) env S = match evs Φ Γ es env S with
    | none => none
    | some (as, S1) => match Φ[f]? with
      | none => none
      | some m => match m as S1 with
        | none => none
        | some (r, S2) => some (r, gc r S1 S2) := by
  first | (rw [ev]; done) | (rw [ev]; rfl)
@[simp] theorem ev_blt (b : Bl) (es : Exs) : ev Φ Γ (.blt b es) env S = match evs Φ Γ es env S with
    | none => none
    | some (as, S1) => (bltF b as S1).map fun c => (c, S1) := by
  first | (rw [ev]; done) | (rw [ev]; rfl)
theorem ev_isi (a : Ex) (ts : List Ty) : ev Φ Γ (.isi a ts) env S = match ev Φ Γ a env S with
    | none => none
    | some (x, S1) => match deref S1 x with
      | none => none
      | some (.dict _) => none
      | some y => some (.d (.bool (ts.any fun t => typeOk y t)), S1) := by
  first | (rw [ev]; done) | (rw [ev]; rfl)
theorem ev_lrg (a : Ex) : ev Φ Γ (.lrg a) env S = match ev Φ Γ a env S with
    | some (.d (.int j), S1) => (rngF 0 j).map fun xs => (.d (.list xs), S1)
    | _ => none := by
  first | (rw [ev]; done) | (rw [ev]; rfl)
end
theorem atI_nat {α : Type} (xs : List α) (i : Nat) (h : i < xs.length) : atI xs (i : Int) = some xs[i] := by
  unfold atI ixN
  rw [if_pos (by omega), if_pos (by omega)]
  simp [h]
@[simp] theorem atI_0 {α : Type} (x : α) (xs : List α) : atI (x :: xs) 0 = some x := atI_nat (x :: xs) 0 (by simp)
@[simp] theorem atI_1 {α : Type} (x y : α) (xs : List α) : atI (x :: y :: xs) 1 = some y := atI_nat (x :: y :: xs) 1 (by simp)
@[simp] theorem atI_2 {α : Type} (x y z : α) (xs : List α) : atI (x :: y :: z :: xs) 2 = some z := atI_nat (x :: y :: z :: xs) 2 (by simp)
@[simp] theorem atI_3 {α : Type} (x y z u : α) (xs : List α) : atI (x :: y :: z :: u :: xs) 3 = some u := atI_nat (x :: y :: z :: u :: xs) 3 (by simp)
theorem ixN_1 (n : Nat) (h : 1 < n) : ixN n 1 = some 1 := by unfold ixN; rw [if_pos (by omega), if_pos (by omega)]; rfl
theorem ixN_2 (n : Nat) (h : 2 < n) : ixN n 2 = some 2 := by unfold ixN; rw [if_pos (by omega), if_pos (by omega)]; rfl
theorem ixN_3 (n : Nat) (h : 3 < n) : ixN n 3 = some 3 := by unfold ixN; rw [if_pos (by omega), if_pos (by omega)]; rfl

theorem gc_same (r : A) (S : Sto) : gc r S S = S := by
  unfold gc
  split
  · rw [List.take_length]
    split <;> rfl
  · rfl
theorem gc_len {x : PyData} {S S' : Sto} (h : S'.length = S.length) : gc (.d x) S S' = S' := by
  unfold gc
  rw [← h, List.take_length]
  simp
/-- a comprehension's loop that leaves the store -/
theorem compL_map {α : Type} (enc : α → PyData) (f : PyData → Sto → Option (Option PyData × Sto)) (g : α → Option PyData) (S : Sto) : ∀ (xs : List α), (∀ x ∈ xs, f (enc x) S = some (g x, S)) → compL f (xs.map enc) S = some (xs.filterMap g, S)
  | [], _ => rfl
  | x :: xs, h => by
    rw [List.map_cons, compL, h x (by simp)]
    simp only
    rw [compL_map enc f g S xs fun y hy => h y (by simp [hy])]
    simp only
    cases e : g x <;> simp [e]
theorem compL_all (f : PyData → Sto → Option (Option PyData × Sto)) (S : Sto) (z : PyData) : ∀ (xs : List PyData), (∀ x ∈ xs, f x S = some (some z, S)) → compL f xs S = some (List.replicate xs.length z, S)
  | [], _ => rfl
  | x :: xs, h => by
    rw [compL, h x (by simp)]
    simp only
    rw [compL_all f S z xs fun y hy => h y (by simp [hy])]
    rfl
theorem boolsD_rep : ∀ n : Nat, boolsD (List.replicate n (.bool true)) = some (List.replicate n true)
  | 0 => rfl
  | n + 1 => by
    rw [List.replicate_succ, boolsD, boolsD_rep n]
    rfl
/-! rules -/
section
variable {Φ : List Fs} {Γ : List PyData} {env e1 : En} {S S1 S2 : Sto} {s : Sx} {ss : Ss} {t e : Ex} {a b : Ss} {r : Option (Fl × En × Sto)}
theorem r_nx (h : ex Φ Γ s env S = some (.nx, e1, S1)) (h2 : exs Φ Γ ss e1 S1 = r) : exs Φ Γ (.cons s ss) env S = r := by rw [exs, h]; exact h2
theorem r_rt {v : A} (h : ex Φ Γ s env S = some (.rt v, e1, S1)) : exs Φ Γ (.cons s ss) env S = some (.rt v, e1, S1) := by rw [exs, h]
theorem r_ct (h : ex Φ Γ s env S = some (.ct, e1, S1)) : exs Φ Γ (.cons s ss) env S = some (.ct, e1, S1) := by rw [exs, h]
theorem r_bk (h : ex Φ Γ s env S = some (.bk, e1, S1)) : exs Φ Γ (.cons s ss) env S = some (.bk, e1, S1) := by rw [exs, h]
theorem r_nil : exs Φ Γ .nil env S = some (.nx, env, S) := by rw [exs]
theorem r_ev {k : Bool} (h : ev Φ Γ t env S = some (.d (.bool k), S1)) : evT Φ Γ t env S = some (k, S1) := by rw [evT, h]; rfl
theorem r_evv {k : Bool} {v : A} (h : ev Φ Γ t env S = some (v, S1)) (h2 : tru S1 v = some k) : evT Φ Γ t env S = some (k, S1) := by rw [evT, h]; simp [h2]
theorem r_ifT (h : ev Φ Γ t env S = some (.d (.bool true), S1)) (h2 : exs Φ Γ a env S1 = r) : ex Φ Γ (.ifs t a b) env S = r := by rw [ex, r_ev h]; exact h2
theorem r_ifF (h : ev Φ Γ t env S = some (.d (.bool false), S1)) (h2 : exs Φ Γ b env S1 = r) : ex Φ Γ (.ifs t a b) env S = r := by rw [ex, r_ev h]; exact h2
theorem r_if {k : Bool} (h : ev Φ Γ t env S = some (.d (.bool k), S1)) (h2 : (if k = true then exs Φ Γ a env S1 else exs Φ Γ b env S1) = r) : ex Φ Γ (.ifs t a b) env S = r := by
  rw [ex, r_ev h]
  cases k <;> simpa using h2
theorem r_ifv {k : Bool} {v : A} (h : ev Φ Γ t env S = some (v, S1)) (hk : tru S1 v = some k) (h2 : (if k = true then exs Φ Γ a env S1 else exs Φ Γ b env S1) = r) : ex Φ Γ (.ifs t a b) env S = r := by
  rw [ex, r_evv h hk]
  cases k <;> simpa using h2
theorem r_asg {i : Nat} {v : A} (h : ev Φ Γ e env S = some (v, S1)) : ex Φ Γ (.asg (.nm i) e) env S = some (.nx, env.set i (some v), S1) := by rw [ex, h]; simp [bnd]
theorem r_asgt {tg : Tg} {v : A} (h : ev Φ Γ e env S = some (v, S1)) (h2 : bnd Φ Γ tg v env S1 = some (e1, S2)) : ex Φ Γ (.asg tg e) env S = some (.nx, e1, S2) := by rw [ex, h]; simp [h2]
theorem r_par {ts : Tgs} {es : Exs} {vs : List A} (h : evs Φ Γ es env S = some (vs, S1)) (h2 : bnds Φ Γ ts vs env S1 = some (e1, S2)) : ex Φ Γ (.par ts es) env S = some (.nx, e1, S2) := by rw [ex, h]; simp [h2]
theorem r_ret {x : PyData} (h : ev Φ Γ e env S = some (.d x, S1)) : ex Φ Γ (.ret e) env S = some (.rt (.d x), env, S1) := by rw [ex, h]; rfl
theorem r_for {tg : Tg} {it : Itx} {wl : List Nat} {xs : List PyData} (h : evI Φ Γ it env S = some (xs, S1)) (h2 : forL (fF Φ Γ tg b wl) xs env S1 = r) : ex Φ Γ (.for_ tg it b wl) env S = r := by rw [ex_for, h]; exact h2
theorem r_run {n : Nat} {as : List A} {v : A} (h : exs Φ Γ a (as.map some ++ List.replicate (n - as.length) none) S = some (.rt v, e1, S1)) : run Φ Γ n a as S = some (v, S1) := by rw [run, h]
theorem r_run0 {n : Nat} {as : List A} (h : exs Φ Γ a (as.map some ++ List.replicate (n - as.length) none) S = some (.nx, e1, S1)) : run Φ Γ n a as S = some (.d .none, S1) := by rw [run, h]
theorem r_call {f : Nat} {es : Exs} {as : List A} {m : Fs} {v : A} (h : evs Φ Γ es env S = some (as, S1)) (hf : Φ[f]? = some m) (hm : m as S1 = some (v, S2)) : ev Φ Γ (.call f es) env S = some (v, gc v S1 S2) := by rw [ev_call, h]; simp [hf, hm]
theorem r_call0 {f : Nat} {es : Exs} {as : List A} {m : Fs} {v : A} (h : evs Φ Γ es env S = some (as, S1)) (hf : Φ[f]? = some m) (hm : m as S1 = some (v, S1)) : ev Φ Γ (.call f es) env S = some (v, S1) := by rw [r_call h hf hm, gc_same]
theorem r_comp {tg : Tg} {it : Itx} {ifs : Exs} {xs ys : List PyData} (h : evI Φ Γ it env S = some (xs, S1)) (h2 : compL (cF Φ Γ tg ifs e (wipeE env tg.slots)) xs S1 = some (ys, S2)) : ev Φ Γ (.comp tg it ifs e) env S = some (.d (.list ys), S2) := by rw [ev_comp, h]; simp [h2]
theorem r_blt {bl : Bl} {x y : PyData} (h : ev Φ Γ e env S = some (.d x, S1)) (h2 : bltD bl x = some y) : ev Φ Γ (.blt bl (.cons e .nil)) env S = some (.d y, S1) := by
  rw [ev_blt, evs, h]
  simp [evs, bltF_d, h2]
/-- a comprehension's turn -/
theorem r_cf {tg : Tg} {env0 : En} {x z : PyData} (hb : bnd Φ Γ tg (.d x) env0 S = some (e1, S)) (h : ev Φ Γ e e1 S = some (.d z, S)) : cF Φ Γ tg .nil e env0 x S = some (some z, S) := by
  unfold cF
  simp [hb, evTs, h, frz_d]
theorem r_cfi {tg : Tg} {env0 : En} {x z : PyData} {k : Bool} {v : A} (hb : bnd Φ Γ tg (.d x) env0 S = some (e1, S)) (ht : ev Φ Γ t e1 S = some (v, S)) (hk : tru S v = some k) (h : k = true → ev Φ Γ e e1 S = some (.d z, S)) : cF Φ Γ tg (.cons t .nil) e env0 x S = some ((if k = true then some z else none), S) := by
  unfold cF
  cases k with
  | false => simp [hb, evTs, ht, hk]
  | true => simp [hb, evTs, ht, hk, h rfl, frz_d]
end
end PV

/-! PV20: draws, what is the same. -/
namespace PV
open PySem PySem.Spec PyProof.Rows L2
def bNext : Ss := .cons (.ifs (.cmp .Gt (.ix (.var 0) (.cst (.int 2))) (.cst (.int 0))) (.cons (.asg (.nm 2) (.bin .Mod (.blt .int (.cons (.ix (.var 0) (.cst (.int 2))) .nil)) (.var 1))) (.cons (.asg (.sub (.var 0) (.cst (.int 2))) (.bin .FloorDiv (.ix (.var 0) (.cst (.int 2))) (.var 1))) (.cons (.ret (.var 2)) .nil))) .nil) (.cons (.ifs (.cmp .Lt (.ix (.var 0) (.cst (.int 1))) (.blt .len (.cons (.ix (.var 0) (.cst (.int 0))) .nil))) (.cons (.asg (.nm 3) (.blt .abs (.cons (.ix (.ix (.var 0) (.cst (.int 0))) (.ix (.var 0) (.cst (.int 1)))) .nil))) (.cons (.asg (.sub (.var 0) (.cst (.int 1))) (.bin .Add (.ix (.var 0) (.cst (.int 1))) (.cst (.int 1)))) (.cons (.ifs (.cmp .GtE (.var 3) (.bin .Pow (.cst (.int 10)) (.cst (.int 18)))) (.cons (.asg (.sub (.var 0) (.cst (.int 2))) (.bin .FloorDiv (.var 3) (.var 1))) (.cons (.ret (.bin .Mod (.blt .int (.cons (.var 3) .nil)) (.var 1))) .nil)) .nil) (.cons (.asg (.sub (.var 0) (.cst (.int 3))) (.bin .Mod (.blt .int (.cons (.bin .Add (.bin .Add (.bin .Mult (.ix (.var 0) (.cst (.int 3))) (.cst (.int 48271))) (.var 3)) (.cst (.int 11))) .nil)) (.cst (.int 2147483647)))) .nil)))) (.cons (.asg (.sub (.var 0) (.cst (.int 3))) (.bin .Mod (.blt .int (.cons (.bin .Add (.bin .Mult (.ix (.var 0) (.cst (.int 3))) (.cst (.int 48271))) (.cst (.int 12345))) .nil)) (.cst (.int 2147483647)))) .nil)) (.cons (.ret (.bin .Mod (.bin .FloorDiv (.blt .int (.cons (.bin .Mod (.bin .Mult (.ix (.var 0) (.cst (.int 3))) (.cst (.int 69621))) (.cst (.int 2147483629))) .nil)) (.cst (.int 7))) (.var 1))) .nil))
/-- the draw's object -/
def drO (ns : List Int) (p : Nat) (c a : Int) : Ob := .lst [.list (ns.map .int), .int p, .int c, .int a] false
def isDr (ns : List Int) (o : Ob) : Prop := ∃ p c a, o = drO ns p c a

section
variable (Φ : List Fs) (Γ : List PyData)
theorem next_ok {ns : List Int} {S : Sto} {k : Nat} {many : Int} {o : Ob} (hn : ns.length ≤ 63) (hk : S[k]? = some o) (ho : isDr ns o) (h0 : 0 < many) (h1 : many < 1073741824) : ∃ r o', 0 ≤ r ∧ r < many ∧ isDr ns o' ∧ run Φ Γ 4 bNext [.obj k, .d (.int many)] S = some (.d (.int r), S.set k o') := by
  obtain ⟨p, c, a, rfl⟩ := ho
  have hkl : k < S.length := by
    rcases Nat.lt_or_ge k S.length with h | h
    · exact h
    · rw [List.getElem?_eq_none h] at hk
      cases hk
  have ne : many ≠ 0 := by omega
  have na : many.natAbs < 1073741824 := by omega
  have m0 := fun x => Int.fmod_nonneg_of_pos x h0
  have m1 := fun x => Int.fmod_lt_of_pos x h0
  have gk : ∀ o : Ob, (S.set k o)[k]? = some o := fun o => by rw [List.getElem?_set_self hkl]
  have mulA : ∀ x : Int, mulOk x 48271 = true := fun x => by unfold mulOk; simp
  have mulB : ∀ x : Int, mulOk x 69621 = true := fun x => by unfold mulOk; simp
  have hpow : binD .Pow (.int 10) (.int 18) = some (.int 1000000000000000000) := by simp [binD, binI]
  by_cases hc : 0 < c
  · refine ⟨c.fmod many, drO ns p (c.fdiv many) a, m0 c, m1 c, ⟨_, _, _, rfl⟩, ?_⟩
    simp [run, bNext, exs, ex, ev, evs, evT, bnd, tru, truD, deref, hk, drO, ixF, ixD, atI_2, cmpF, cmpD, hc, bltF, bltD, binF, binD, binI, ne, na, setF, frz, ixN_2]
  · by_cases hp : p < ns.length
    · have hat : atI (ns.map PyData.int) (p : Int) = some (.int ns[p]) := by
        rw [atI_nat _ p (by simpa using hp)]
        simp
      generalize hcell : (if ns[p] < 0 then -ns[p] else ns[p]) = cell
      by_cases hb : (1000000000000000000 : Int) ≤ cell
      · refine ⟨_, drO ns (p + 1) (cell.fdiv many) a, m0 cell, m1 _, ⟨_, _, _, rfl⟩, ?_⟩
        simp [run, bNext, exs, ex, ev, evs, evT, bnd, tru, truD, deref, hk, drO, ixF, ixD, atI_0, atI_1, atI_2, atI_3, cmpF_gt, cmpF_lt, cmpF_ge, ltD_int, hc, hp, hat, hcell, hb, bltF, bltD, lenD, binF_d, hpow, binD, binI, ne, na, setF, frz, ixN_1, ixN_2, ixN_3, gk, List.set_set]
      · refine ⟨_, drO ns (p + 1) c ((a * 48271 + cell + 11).fmod 2147483647), m0 (((((a * 48271 + cell + 11).fmod 2147483647) * 69621).fmod 2147483629).fdiv 7), m1 _, ⟨_, _, _, rfl⟩, ?_⟩
        simp [run, bNext, exs, ex, ev, evs, evT, bnd, tru, truD, deref, hk, drO, ixF, ixD, atI_0, atI_1, atI_2, atI_3, cmpF_gt, cmpF_lt, cmpF_ge, ltD_int, hc, hp, hat, hcell, hb, bltF, bltD, lenD, binF_d, hpow, binD, binI, ne, na, setF, frz, ixN_1, ixN_2, ixN_3, gk, List.set_set, mulA, mulB]
    · refine ⟨_, drO ns p c ((a * 48271 + 12345).fmod 2147483647), m0 (((((a * 48271 + 12345).fmod 2147483647) * 69621).fmod 2147483629).fdiv 7), m1 _, ⟨_, _, _, rfl⟩, ?_⟩
      simp [run, bNext, exs, ex, ev, evs, evT, bnd, tru, truD, deref, hk, drO, ixF, ixD, atI_0, atI_1, atI_2, atI_3, cmpF_gt, cmpF_lt, cmpF_ge, ltD_int, hc, hp, bltF, bltD, lenD, binF_d, hpow, binD, binI, ne, na, setF, frz, ixN_1, ixN_2, ixN_3, gk, List.set_set, mulA, mulB]
def bDraw : Ss := .cons (.retO (.fresh (.lst (.cons (.blt .list (.cons (.var 0) .nil)) (.cons (.cst (.int 0)) (.cons (.cst (.int 0)) (.cons (.cst (.int 17)) .nil))))))) .nil
theorem draw_ok {ns : List Int} {S : Sto} : ∃ o, isDr ns o ∧ run Φ Γ 1 bDraw [.seq ns] S = some (.obj S.length, S ++ [o]) := by
  refine ⟨drO ns 0 0 17, ⟨_, _, _, rfl⟩, ?_⟩
  simp [run, bDraw, exs, ex, ev, evs, bltF, frzAll, frz, newOb, drO]
def bSame (i : Nat) : Ss := .cons (.ifs (.isi (.var 1) [.list, .tuple]) (.cons (.ifs (.or (.cons (.cmp .NotEq (.isi (.var 1) [.list]) (.isi (.var 0) [.list])) (.cons (.cmp .NotEq (.isi (.var 1) [.tuple]) (.isi (.var 0) [.tuple])) .nil))) (.cons (.ret (.cst (.bool false))) .nil) .nil) (.cons (.ifs (.cmp .NotEq (.blt .len (.cons (.var 0) .nil)) (.blt .len (.cons (.var 1) .nil))) (.cons (.ret (.cst (.bool false))) .nil) .nil) (.cons (.ret (.blt .all (.cons (.comp (.nm 2) (.rng (.blt .len (.cons (.var 1) .nil))) .nil (.call i (.cons (.ix (.var 0) (.var 2)) (.cons (.ix (.var 1) (.var 2)) .nil)))) .nil))) .nil))) .nil) (.cons (.ifs (.cmp .Is (.var 1) (.cst .none)) (.cons (.ret (.cmp .Is (.var 0) (.cst .none))) .nil) .nil) (.cons (.ifs (.cmp .NotEq (.isi (.var 1) [.bool]) (.isi (.var 0) [.bool])) (.cons (.ret (.cst (.bool false))) .nil) .nil) (.cons (.ifs (.isi (.var 1) [.str]) (.cons (.ret (.and (.cons (.isi (.var 0) [.str]) (.cons (.cmp .Eq (.var 0) (.var 1)) .nil)))) .nil) .nil) (.cons (.ret (.and (.cons (.isi (.var 0) [.int]) (.cons (.cmp .Eq (.var 0) (.var 1)) .nil)))) .nil))))

/-- what can be held against itself -/
def fitL (f : PyData → Bool) : List PyData → Bool
  | [] => true
  | x :: xs => f x && fitL f xs
def fitS : Nat → PyData → Bool
  | 0, _ => false
  | n + 1, .list xs => decide (xs.length ≤ 16777216) && fitL (fitS n) xs
  | n + 1, .tuple xs => decide (xs.length ≤ 16777216) && fitL (fitS n) xs
  | _ + 1, .dict _ => false
  | _ + 1, _ => true
theorem fitSs_get {n : Nat} : ∀ {xs : List PyData} {i : Nat} (h : i < xs.length), fitL (fitS n) xs = true → fitS n xs[i] = true
  | x :: xs, 0, h, e => by
    simp only [fitL, Bool.and_eq_true] at e
    exact e.1
  | x :: xs, i + 1, h, e => by
    simp only [fitL, Bool.and_eq_true] at e
    exact fitSs_get (xs := xs) (by simpa using h) e.2
theorem fitL_of {f : PyData → Bool} : ∀ {xs : List PyData}, (∀ x ∈ xs, f x = true) → fitL f xs = true
  | [], _ => rfl
  | x :: xs, h => by
    simp only [fitL, Bool.and_eq_true]
    exact ⟨h x (by simp), fitL_of fun y hy => h y (by simp [hy])⟩
theorem same_list {i : Nat} (Φ : List Fs) (S : Sto) (xs : List PyData) (hx : xs.length ≤ 16777216) (h : ∀ (j : Nat) (hj : j < xs.length), ∃ m, Φ[i]? = some m ∧ m [.d xs[j], .d xs[j]] S = some (.d (.bool true), S)) : run Φ Γ 3 (bSame i) [.d (.list xs), .d (.list xs)] S = some (.d (.bool true), S) := by
  have h1 : ev Φ Γ (.isi (.var 1) [.list, .tuple]) [some (.d (.list xs)), some (.d (.list xs)), none] S = some (.d (.bool true), S) := by simp [ev_isi, ev_var, deref_d, typeOk, ty_ll, ty_lt, ty_tl]
  have h2 : ev Φ Γ (.or (.cons (.cmp .NotEq (.isi (.var 1) [.list]) (.isi (.var 0) [.list])) (.cons (.cmp .NotEq (.isi (.var 1) [.tuple]) (.isi (.var 0) [.tuple])) .nil))) [some (.d (.list xs)), some (.d (.list xs)), none] S = some (.d (.bool false), S) := by
    simp [ev_isi, ev_or, evOr, ev_cmp, ev_var, deref_d, typeOk, ty_ll, ty_lt, ty_tl, cmpF_ne, eqvD_bool, Exs.isNil, tru_bool]
  have h3 : ev Φ Γ (.cmp .NotEq (.blt .len (.cons (.var 0) .nil)) (.blt .len (.cons (.var 1) .nil))) [some (.d (.list xs)), some (.d (.list xs)), none] S = some (.d (.bool false), S) := by
    simp [ev_cmp, ev_blt, evs, ev_var, bltF_d, bltD, len_list, cmpF_ne, eqvD_int]
  have h4 : evI Φ Γ (.rng (.blt .len (.cons (.var 1) .nil))) [some (.d (.list xs)), some (.d (.list xs)), none] S = some ((List.range xs.length).map fun k => PyData.int (k : Nat), S) := by
    have hr := rng_nat _ hx
    simp [evI, ev_blt, evs, ev_var, bltF_d, bltD, len_list, hr]
  have h5 := compL_all (cF Φ Γ (.nm 2) .nil (.call i (.cons (.ix (.var 0) (.var 2)) (.cons (.ix (.var 1) (.var 2)) .nil))) [some (.d (.list xs)), some (.d (.list xs)), none]) S (.bool true) ((List.range xs.length).map fun k => PyData.int (k : Nat)) fun x hx' => by
    obtain ⟨j, hj, rfl⟩ := List.mem_map.mp hx'
    have hj := List.mem_range.mp hj
    have hat : atI xs (j : Int) = some xs[j] := atI_nat xs j hj
    obtain ⟨m, h1, h2⟩ := h j hj
    refine r_cf (e1 := [some (.d (.list xs)), some (.d (.list xs)), some (.d (.int (j : Nat)))]) rfl (r_call0 (as := [.d xs[j], .d xs[j]]) ?_ h1 h2)
    simp [evs, ev_ix, ev_var, ixF_d, ixD, hat]
  rw [List.length_map, List.length_range] at h5
  exact r_run (r_rt (r_ifT h1 (r_nx (r_ifF h2 r_nil) (r_nx (r_ifF h3 r_nil) (r_rt (r_ret (x := .bool true) (r_blt (r_comp h4 h5) (by simp [bltD, boolsD_rep]))))))))
theorem same_tuple {i : Nat} (Φ : List Fs) (S : Sto) (xs : List PyData) (hx : xs.length ≤ 16777216) (h : ∀ (j : Nat) (hj : j < xs.length), ∃ m, Φ[i]? = some m ∧ m [.d xs[j], .d xs[j]] S = some (.d (.bool true), S)) : run Φ Γ 3 (bSame i) [.d (.tuple xs), .d (.tuple xs)] S = some (.d (.bool true), S) := by
  have h1 : ev Φ Γ (.isi (.var 1) [.list, .tuple]) [some (.d (.tuple xs)), some (.d (.tuple xs)), none] S = some (.d (.bool true), S) := by simp [ev_isi, ev_var, deref_d, typeOk, ty_tl, ty_tt, ty_lt, ty_ll]
  have h2 : ev Φ Γ (.or (.cons (.cmp .NotEq (.isi (.var 1) [.list]) (.isi (.var 0) [.list])) (.cons (.cmp .NotEq (.isi (.var 1) [.tuple]) (.isi (.var 0) [.tuple])) .nil))) [some (.d (.tuple xs)), some (.d (.tuple xs)), none] S = some (.d (.bool false), S) := by
    simp [ev_isi, ev_or, evOr, ev_cmp, ev_var, deref_d, typeOk, ty_tl, ty_tt, ty_lt, ty_ll, cmpF_ne, eqvD_bool, Exs.isNil, tru_bool]
  have h3 : ev Φ Γ (.cmp .NotEq (.blt .len (.cons (.var 0) .nil)) (.blt .len (.cons (.var 1) .nil))) [some (.d (.tuple xs)), some (.d (.tuple xs)), none] S = some (.d (.bool false), S) := by
    simp [ev_cmp, ev_blt, evs, ev_var, bltF_d, bltD, len_tuple, cmpF_ne, eqvD_int]
  have h4 : evI Φ Γ (.rng (.blt .len (.cons (.var 1) .nil))) [some (.d (.tuple xs)), some (.d (.tuple xs)), none] S = some ((List.range xs.length).map fun k => PyData.int (k : Nat), S) := by
    have hr := rng_nat _ hx
    simp [evI, ev_blt, evs, ev_var, bltF_d, bltD, len_tuple, hr]
  have h5 := compL_all (cF Φ Γ (.nm 2) .nil (.call i (.cons (.ix (.var 0) (.var 2)) (.cons (.ix (.var 1) (.var 2)) .nil))) [some (.d (.tuple xs)), some (.d (.tuple xs)), none]) S (.bool true) ((List.range xs.length).map fun k => PyData.int (k : Nat)) fun x hx' => by
    obtain ⟨j, hj, rfl⟩ := List.mem_map.mp hx'
    have hj := List.mem_range.mp hj
    have hat : atI xs (j : Int) = some xs[j] := atI_nat xs j hj
    obtain ⟨m, h1, h2⟩ := h j hj
    refine r_cf (e1 := [some (.d (.tuple xs)), some (.d (.tuple xs)), some (.d (.int (j : Nat)))]) rfl (r_call0 (as := [.d xs[j], .d xs[j]]) ?_ h1 h2)
    simp [evs, ev_ix, ev_var, ixF_d, ixD, hat]
  rw [List.length_map, List.length_range] at h5
  exact r_run (r_rt (r_ifT h1 (r_nx (r_ifF h2 r_nil) (r_nx (r_ifF h3 r_nil) (r_rt (r_ret (x := .bool true) (r_blt (r_comp h4 h5) (by simp [bltD, boolsD_rep]))))))))
theorem same_atom {i : Nat} (Φ : List Fs) (S : Sto) (x : PyData) (h : atomD x = true) : run Φ Γ 3 (bSame i) [.d x, .d x] S = some (.d (.bool true), S) := by
  cases x with
  | none => simp [run, bSame, exs, ex, evT, ev_isi, ev_var, ev_cst, ev_and, ev_or, ev_cmp, ev_blt, ev_comp, evs, evI, cmpF_is, isD, cmpF_ne, cmpF_eq, eqvD_bool, eqvD_int, eqvD_str, evAnd, evOr, deref_d, tru_bool, typeOk, ty_ll, ty_lt, ty_ls, ty_li, ty_lb, ty_tl, ty_tt, ty_ts, ty_ti, ty_tb, ty_sl, ty_st, ty_ss, ty_si, ty_sb, ty_il, ty_it, ty_is, ty_ii, ty_ib, ty_bl, ty_bt, ty_bs, ty_bi, ty_bb, frz_d, Exs.isNil, bltF_d, bltD, len_list, len_tuple, Tg.slots, wipeE]
  | bool b => simp [run, bSame, exs, ex, evT, ev_isi, ev_var, ev_cst, ev_and, ev_or, ev_cmp, ev_blt, ev_comp, evs, evI, cmpF_is, isD, cmpF_ne, cmpF_eq, eqvD_bool, eqvD_int, eqvD_str, evAnd, evOr, deref_d, tru_bool, typeOk, ty_ll, ty_lt, ty_ls, ty_li, ty_lb, ty_tl, ty_tt, ty_ts, ty_ti, ty_tb, ty_sl, ty_st, ty_ss, ty_si, ty_sb, ty_il, ty_it, ty_is, ty_ii, ty_ib, ty_bl, ty_bt, ty_bs, ty_bi, ty_bb, frz_d, Exs.isNil, bltF_d, bltD, len_list, len_tuple, Tg.slots, wipeE]
  | int b => simp [run, bSame, exs, ex, evT, ev_isi, ev_var, ev_cst, ev_and, ev_or, ev_cmp, ev_blt, ev_comp, evs, evI, cmpF_is, isD, cmpF_ne, cmpF_eq, eqvD_bool, eqvD_int, eqvD_str, evAnd, evOr, deref_d, tru_bool, typeOk, ty_ll, ty_lt, ty_ls, ty_li, ty_lb, ty_tl, ty_tt, ty_ts, ty_ti, ty_tb, ty_sl, ty_st, ty_ss, ty_si, ty_sb, ty_il, ty_it, ty_is, ty_ii, ty_ib, ty_bl, ty_bt, ty_bs, ty_bi, ty_bb, frz_d, Exs.isNil, bltF_d, bltD, len_list, len_tuple, Tg.slots, wipeE]
  | str b => simp [run, bSame, exs, ex, evT, ev_isi, ev_var, ev_cst, ev_and, ev_or, ev_cmp, ev_blt, ev_comp, evs, evI, cmpF_is, isD, cmpF_ne, cmpF_eq, eqvD_bool, eqvD_int, eqvD_str, evAnd, evOr, deref_d, tru_bool, typeOk, ty_ll, ty_lt, ty_ls, ty_li, ty_lb, ty_tl, ty_tt, ty_ts, ty_ti, ty_tb, ty_sl, ty_st, ty_ss, ty_si, ty_sb, ty_il, ty_it, ty_is, ty_ii, ty_ib, ty_bl, ty_bt, ty_bs, ty_bi, ty_bb, frz_d, Exs.isNil, bltF_d, bltD, len_list, len_tuple, Tg.slots, wipeE]
  | dict b => simp [atomD] at h
  | list b => simp [atomD] at h
  | tuple b => simp [atomD] at h
/-- a thing is the same as itself -/
theorem same_ok {i : Nat} (F : Nat → List Fs) (hF : ∀ k, (F (k + 1))[i]? = some (run (F k) Γ 3 (bSame i))) (n : Nat) : ∀ (x : PyData) (k : Nat) (S : Sto), fitS n x = true → n ≤ k + 1 → run (F k) Γ 3 (bSame i) [.d x, .d x] S = some (.d (.bool true), S) := by
  induction n with
  | zero =>
    intro x k S h hk
    simp [fitS] at h
  | succ n ih =>
    intro x k S h hk
    have go : ∀ xs : List PyData, fitL (fitS n) xs = true → ∀ (j : Nat) (hj : j < xs.length), ∃ m, (F k)[i]? = some m ∧ m [.d xs[j], .d xs[j]] S = some (.d (.bool true), S) := fun xs hf j hj => by
      have hz := fitSs_get hj hf
      cases k with
      | zero =>
        have : n = 0 := by omega
        subst this
        simp [fitS] at hz
      | succ k => exact ⟨_, hF k, ih xs[j] k S hz (by omega)⟩
    cases x with
    | none => exact same_atom Γ (F k) S _ rfl
    | bool b => exact same_atom Γ (F k) S _ rfl
    | int b => exact same_atom Γ (F k) S _ rfl
    | str b => exact same_atom Γ (F k) S _ rfl
    | dict b => simp [fitS] at h
    | list xs =>
      simp only [fitS, Bool.and_eq_true, decide_eq_true_eq] at h
      exact same_list Γ (F k) S xs h.1 (go xs h.2)
    | tuple xs =>
      simp only [fitS, Bool.and_eq_true, decide_eq_true_eq] at h
      exact same_tuple Γ (F k) S xs h.1 (go xs h.2)
end
end PV

/-! PV21: loops and comprehensions over encoded lists. -/
namespace PV
open PySem PySem.Spec PyProof.Rows L2
section
variable {Φ : List Fs} {Γ : List PyData} {env : En} {S : Sto} {t e : Ex} {tg : Tg} {it : Itx} {α : Type}
theorem q_map (enc : α → PyData) (g : α → PyData) (L : List α) (hx : evI Φ Γ it env S = some (L.map enc, S)) (h : ∀ x ∈ L, cF Φ Γ tg .nil e (wipeE env tg.slots) (enc x) S = some (some (g x), S)) : ev Φ Γ (.comp tg it .nil e) env S = some (.d (.list (L.map g)), S) := by
  refine r_comp hx ?_
  rw [compL_map enc _ (fun x => some (g x)) S L h]
  simp
theorem q_filt (enc : α → PyData) (g : α → PyData) (p : α → Bool) (L : List α) (hx : evI Φ Γ it env S = some (L.map enc, S)) (h : ∀ x ∈ L, cF Φ Γ tg (.cons t .nil) e (wipeE env tg.slots) (enc x) S = some ((if p x = true then some (g x) else none), S)) : ev Φ Γ (.comp tg it (.cons t .nil) e) env S = some (.d (.list ((L.filter p).map g)), S) := by
  refine r_comp hx ?_
  rw [compL_map enc _ (fun x => if p x = true then some (g x) else none) S L h]
  congr 2
  clear h hx
  induction L with
  | nil => rfl
  | cons x L ih =>
    rw [List.filterMap_cons, List.filter_cons]
    by_cases hp : p x = true
    · simp [hp, ih]
    · simp [hp, ih]
end
section
variable {α σ : Type}
theorem forL_inv (enc : α → PyData) (f : PyData → En → Sto → Option (Fl × En × Sto)) (E : σ → En) (S : Sto) (step : σ → α → σ) (I : List α → σ → Prop) (hs : ∀ x xs st, I (x :: xs) st → f (enc x) (E st) S = some (.nx, E (step st x), S) ∧ I xs (step st x)) : ∀ (xs : List α) (st : σ), I xs st → forL f (xs.map enc) (E st) S = some (.nx, E (xs.foldl step st), S)
  | [], st, _ => rfl
  | x :: xs, st, h => by
    obtain ⟨h1, h2⟩ := hs x xs st h
    rw [List.map_cons, forL, h1]
    exact forL_inv enc f E S step I hs xs (step st x) h2
theorem forL_find (enc : α → PyData) (f : PyData → En → Sto → Option (Fl × En × Sto)) (env : En) (S : Sto) (p : α → Option A) : ∀ (xs : List α), (∀ x ∈ xs, match p x with
    | none => f (enc x) env S = some (.nx, env, S)
    | some a => ∃ env', f (enc x) env S = some (.rt a, env', S)) → match xs.findSome? p with
    | none => forL f (xs.map enc) env S = some (.nx, env, S)
    | some a => ∃ env', forL f (xs.map enc) env S = some (.rt a, env', S)
  | [], _ => rfl
  | x :: xs, h => by
    have h1 := h x (by simp)
    rw [List.findSome?_cons]
    cases e : p x with
    | none =>
      rw [e] at h1
      have ih := forL_find enc f env S p xs fun y hy => h y (by simp [hy])
      simp only at h1 ⊢
      rw [List.map_cons, forL, h1]
      exact ih
    | some a =>
      rw [e] at h1
      obtain ⟨env', h1⟩ := h1
      exact ⟨env', by rw [List.map_cons, forL, h1]⟩
end
/-! ints, tuples of ints -/
def encL (l : List Int) : PyData := .tuple (l.map .int)
theorem any_int (l : List Int) (i : Int) : ((l.map PyData.int).any fun z => PyData.eqv z (.int i)) = decide (i ∈ l) := by
  rw [Bool.eq_iff_iff]
  simp only [List.any_eq_true, List.mem_map, decide_eq_true_eq]
  constructor
  · rintro ⟨z, ⟨j, hj, rfl⟩, he⟩
    have : j = i := by simpa [PyData.eqv] using he
    exact this ▸ hj
  · intro h
    exact ⟨_, ⟨i, h, rfl⟩, by simp [PyData.eqv]⟩
@[simp] theorem inD_ints (l : List Int) (i : Int) : inD (.int i) (encL l) = some (decide (i ∈ l)) := by
  unfold encL inD
  have h : okIn (.int i) (l.map .int) = true := by
    unfold okIn
    simp [atomD]
  simp only [h, if_true]
  rw [any_int]
theorem boolsD_map {α : Type} (f : α → Bool) : ∀ l : List α, boolsD (l.map fun x => .bool (f x)) = some (l.map f)
  | [] => rfl
  | x :: l => by rw [List.map_cons, boolsD, boolsD_map f l]; rfl
@[simp] theorem any_ok {α : Type} (f : α → Bool) (l : List α) : bltD .any (.list (l.map fun x => .bool (f x))) = some (.bool (l.any f)) := by
  simp [bltD, boolsD_map]
@[simp] theorem all_ok {α : Type} (f : α → Bool) (l : List α) : bltD .all (.list (l.map fun x => .bool (f x))) = some (.bool (l.all f)) := by
  simp [bltD, boolsD_map]
@[simp] theorem bin_add (i j : Int) : binD .Add (.int i) (.int j) = some (.int (i + j)) := rfl
@[simp] theorem bin_sub (i j : Int) : binD .Sub (.int i) (.int j) = some (.int (i - j)) := rfl
theorem bin_app (xs ys : List PyData) (h : xs.length + ys.length ≤ 16777216) : binD .Add (.list xs) (.list ys) = some (.list (xs ++ ys)) := by simp [binD, h]
theorem bin_tup (xs ys : List PyData) (h : xs.length + ys.length ≤ 16777216) : binD .Add (.tuple xs) (.tuple ys) = some (.tuple (xs ++ ys)) := by simp [binD, h]
end PV

/-! PV22: all sets of a list of ints, by length, then by order. -/
namespace PV
open PySem PySem.Spec PyProof.Rows L2
def encP (s : List Int) : PyData := .tuple [.int s.length, encL s]
def leS (a b : List Int) : Bool := !ltB (encP b) (encP a)
def bld (xs : List Int) : List (List Int) := xs.foldl (fun f x => f ++ f.map fun s => s ++ [x]) [[]]
def setsL (xs : List Int) : List (List Int) := (bld xs).mergeSort leS
theorem alike_P (a b : List Int) : PySem.W.alike (encP a) (encP b) = true := by
  unfold encP encL
  simp only [PySem.W.alike, PySem.W.alikeAll, PySem.W.alike_ints, Bool.and_true]
theorem alikeRow_P : ∀ L : List (List Int), alikeRow (L.map encP) = true
  | [] => rfl
  | x :: L => by
    rw [List.map_cons, alikeRow, alikeRow_P L, alike_P]
    simp [alike_P]
theorem noDics_int : ∀ l : List Int, noDics (l.map .int) = true
  | [] => rfl
  | x :: l => by rw [List.map_cons, noDics, noDics_int l]; rfl
theorem noDics_P : ∀ L : List (List Int), noDics (L.map encP) = true
  | [] => rfl
  | x :: L => by
    rw [List.map_cons, noDics, noDics_P L]
    simp [encP, encL, noDic, noDics, noDics_int]
theorem depth_P (a : List Int) : (encP a).depth = 2 := by
  unfold encP encL
  simp [PyData.depth, PyData.depthAll, PySem.W.depth_ints]
theorem sort_P (L : List (List Int)) : sortD (L.map encP) = some ((L.mergeSort leS).map encP) := by
  unfold sortD
  have h3 : ((L.map encP).all isTupD || (L.map encP).all noTupD) = true := by
    simp [encP, isTupD]
  have h4 : ((L.map encP).all fun x => decide (x.depth ≤ 32)) = true := by
    simp [depth_P]
  rw [if_pos ⟨alikeRow_P L, noDics_P L, h3, h4⟩]
  congr 1
  rw [List.map_mergeSort]
  intro a _ b _
  rfl
theorem bld_len_aux : ∀ (xs : List Int) (st : List (List Int)), (xs.foldl (fun f x => f ++ f.map fun s => s ++ [x]) st).length = st.length * 2 ^ xs.length
  | [], st => by simp
  | x :: xs, st => by
    rw [List.foldl_cons, bld_len_aux xs]
    rw [List.length_append, List.length_map, List.length_cons, Nat.pow_succ]
    have : st.length + st.length = 2 * st.length := by omega
    rw [this, Nat.mul_comm (2 ^ xs.length) 2, ← Nat.mul_assoc, Nat.mul_comm st.length 2]
/-- order -/
theorem ltBs_ints : ∀ a b : List Int, ltBs (a.map .int) (b.map .int) = decide (a < b)
  | [], [] => by simp [ltBs]
  | [], y :: b => by simp [ltBs]
  | x :: a, [] => by simp [ltBs]
  | x :: a, y :: b => by
    rw [List.map_cons, List.map_cons, ltBs, ltBs_ints a b]
    by_cases h : x = y
    · subst h
      simp [PyData.eqv, List.cons_lt_cons_iff]
    · have : PyData.eqv (.int x) (.int y) = false := by simp [PyData.eqv, h]
      rw [this]
      simp [ltB, List.cons_lt_cons_iff, h]
theorem eqv_int (i j : Int) : PyData.eqv (.int i) (.int j) = decide (i = j) := by
  rw [Bool.eq_iff_iff]
  simp [PyData.eqv]
theorem eqv_ints : ∀ a b : List Int, PyData.eqvAll (a.map .int) (b.map .int) = decide (a = b)
  | [], [] => by simp [PyData.eqvAll]
  | [], y :: b => by simp [PyData.eqvAll]
  | x :: a, [] => by simp [PyData.eqvAll]
  | x :: a, y :: b => by
    rw [List.map_cons, List.map_cons, PyData.eqvAll, eqv_ints a b, eqv_int, Bool.eq_iff_iff]
    simp
theorem ltB_P (a b : List Int) : ltB (encP a) (encP b) = decide (a.length < b.length ∨ (a.length = b.length ∧ a < b)) := by
  unfold encP encL
  simp only [ltB, ltBs, eqv_int]
  by_cases h : a.length = b.length
  · have h' : ((a.length : Int) = (b.length : Int)) := by omega
    simp only [h', decide_true, if_true, h, Nat.lt_irrefl, false_or, true_and]
    have e : PyData.eqv (.tuple (a.map .int)) (.tuple (b.map .int)) = decide (a = b) := by rw [PyData.eqv, eqv_ints]
    rw [e]
    by_cases hab : a = b
    · subst hab
      simp [List.lt_irrefl]
    · simp [hab, ltBs_ints]
  · have h' : ¬ ((a.length : Int) = (b.length : Int)) := by omega
    simp [h', h]
theorem leS_iff (a b : List Int) : leS a b = true ↔ a.length < b.length ∨ (a.length = b.length ∧ ¬ b < a) := by
  unfold leS
  rw [ltB_P]
  simp only [Bool.not_eq_true', decide_eq_false_iff_not, not_or, not_and]
  constructor
  · rintro ⟨h1, h2⟩
    by_cases h : a.length = b.length
    · exact .inr ⟨h, h2 h.symm⟩
    · exact .inl (by omega)
  · rintro (h | ⟨h, h2⟩)
    · exact ⟨by omega, fun e => by omega⟩
    · exact ⟨by omega, fun _ => h2⟩
theorem leS_trans (a b c : List Int) (h1 : leS a b = true) (h2 : leS b c = true) : leS a c = true := by
  rw [leS_iff] at h1 h2 ⊢
  rcases h1 with h1 | ⟨e1, h1⟩
  · rcases h2 with h2 | ⟨e2, h2⟩
    · exact .inl (by omega)
    · exact .inl (by omega)
  · rcases h2 with h2 | ⟨e2, h2⟩
    · exact .inl (by omega)
    · exact .inr ⟨by omega, List.le_trans h1 h2⟩
theorem leS_total (a b : List Int) : (leS a b || leS b a) = true := by
  rw [Bool.or_eq_true, leS_iff, leS_iff]
  by_cases h : a.length = b.length
  · by_cases h2 : b < a
    · exact .inr (.inr ⟨h.symm, List.lt_asymm h2⟩)
    · exact .inl (.inr ⟨h, h2⟩)
  · by_cases h3 : a.length < b.length
    · exact .inl (.inl h3)
    · exact .inr (.inl (by omega))
theorem bld_head_aux : ∀ (xs : List Int) (st : List (List Int)) (a : List Int) (r : List (List Int)), st = a :: r → ∃ r', xs.foldl (fun f x => f ++ f.map fun s => s ++ [x]) st = a :: r'
  | [], st, a, r, h => ⟨r, h⟩
  | x :: xs, st, a, r, h => by
    subst h
    rw [List.foldl_cons]
    exact bld_head_aux xs _ a _ rfl
/-- the empty set comes first -/
theorem setsL_head (xs : List Int) : ∃ r, setsL xs = [] :: r := by
  obtain ⟨r, h⟩ := bld_head_aux xs [[]] [] [] rfl
  unfold setsL bld
  rw [h]
  obtain ⟨l1, l2, e1, e2, e3⟩ := List.mergeSort_cons (le := leS) leS_trans leS_total [] r
  have : l1 = [] := by
    cases l1 with
    | nil => rfl
    | cons b l1 =>
      have := e3 b (by simp)
      have h0 : leS [] b = true := by
        rw [leS_iff]
        cases b with
        | nil => exact .inr ⟨rfl, by simp⟩
        | cons y b => exact .inl (by simp)
      rw [h0] at this
      cases this
  subst this
  exact ⟨l2, by simpa using e1⟩
theorem mem_setsL {xs s : List Int} : s ∈ setsL xs ↔ s ∈ bld xs := List.mem_mergeSort
theorem bld_mono_aux : ∀ (xs : List Int) (st : List (List Int)) (s : List Int), s ∈ st → s ++ xs ∈ xs.foldl (fun f x => f ++ f.map fun s => s ++ [x]) st
  | [], st, s, h => by simpa using h
  | x :: xs, st, s, h => by
    rw [List.foldl_cons]
    have := bld_mono_aux xs (st ++ st.map fun s => s ++ [x]) (s ++ [x]) (by simp [h])
    simpa using this
/-- all of them is a set -/
theorem full_mem (xs : List Int) : xs ∈ setsL xs := by
  rw [mem_setsL]
  have := bld_mono_aux xs [[]] [] (by simp)
  simpa [bld] using this
theorem bld_sub_aux : ∀ (xs : List Int) (st : List (List Int)) (P : Int → Prop), (∀ s ∈ st, ∀ i ∈ s, P i) → (∀ i ∈ xs, P i) → ∀ s ∈ xs.foldl (fun f x => f ++ f.map fun s => s ++ [x]) st, ∀ i ∈ s, P i
  | [], st, P, h, _ => h
  | x :: xs, st, P, h, hx => by
    rw [List.foldl_cons]
    refine bld_sub_aux xs _ P (fun s hs i hi => ?_) fun i hi => hx i (by simp [hi])
    rcases List.mem_append.mp hs with hs | hs
    · exact h s hs i hi
    · obtain ⟨s', hs', rfl⟩ := List.mem_map.mp hs
      rcases List.mem_append.mp hi with hi | hi
      · exact h s' hs' i hi
      · rw [List.mem_singleton] at hi
        subst hi
        exact hx i (by simp)
/-- only of these -/
theorem mem_sub {xs s : List Int} (h : s ∈ setsL xs) : ∀ i ∈ s, i ∈ xs := by
  rw [mem_setsL] at h
  exact bld_sub_aux xs [[]] (· ∈ xs) (by simp) (fun i hi => hi) s h
theorem bld_map_aux (g : Int → Int) : ∀ (xs : List Int) (st : List (List Int)), (xs.map g).foldl (fun f x => f ++ f.map fun s => s ++ [x]) (st.map (·.map g)) = (xs.foldl (fun f x => f ++ f.map fun s => s ++ [x]) st).map (·.map g)
  | [], st => rfl
  | x :: xs, st => by
    rw [List.map_cons, List.foldl_cons, List.foldl_cons, ← bld_map_aux g xs]
    congr 1
    simp [Function.comp_def]
theorem lt_map {g : Int → Int} : ∀ {a b : List Int}, (∀ i ∈ a ++ b, ∀ j ∈ a ++ b, i < j ↔ g i < g j) → (a.map g < b.map g ↔ a < b)
  | [], [], _ => by simp
  | [], y :: b, _ => by simp
  | x :: a, [], _ => by simp
  | x :: a, y :: b, h => by
    rw [List.map_cons, List.map_cons, List.cons_lt_cons_iff, List.cons_lt_cons_iff]
    have h1 := h x (by simp) y (by simp)
    have h2 := h y (by simp) x (by simp)
    have ih := lt_map (g := g) (a := a) (b := b) fun i hi j hj => h i (by
      rcases List.mem_append.mp hi with hi | hi <;> simp [hi]) j (by
      rcases List.mem_append.mp hj with hj | hj <;> simp [hj])
    have he : x = y ↔ g x = g y := by
      constructor
      · intro e; rw [e]
      · intro e
        rcases Int.lt_trichotomy x y with z | z | z
        · have := h1.mp z; omega
        · exact z
        · have := h2.mp z; omega
    rw [ih, ← h1, ← he]
/-- names that keep their order may be changed -/
theorem setsL_map {g : Int → Int} {xs : List Int} (h : ∀ i ∈ xs, ∀ j ∈ xs, i < j ↔ g i < g j) : setsL (xs.map g) = (setsL xs).map (·.map g) := by
  unfold setsL
  rw [List.map_mergeSort (r := leS) (s := leS)]
  · congr 1
    have := bld_map_aux g xs [[]]
    unfold bld
    simpa using this
  · intro a ha b hb
    have ha' := mem_sub (mem_setsL.mpr ha)
    have hb' := mem_sub (mem_setsL.mpr hb)
    rw [Bool.eq_iff_iff, leS_iff, leS_iff, lt_map]
    · simp
    · intro i hi j hj
      refine h i ?_ j ?_
      · rcases List.mem_append.mp hi with hi | hi
        · exact hb' i hi
        · exact ha' i hi
      · rcases List.mem_append.mp hj with hj | hj
        · exact hb' j hj
        · exact ha' j hj
end PV

/-! PV23: rules for bodies that end in a return; the rows marked for simp. -/
namespace PV
open PySem PySem.Spec PyProof.Rows L2
section
variable (Φ : List Fs) (Γ : List PyData)
def Rs (b : Ss) (env : En) (S : Sto) (v : A) (S1 : Sto) : Prop := ∃ e1, exs Φ Γ b env S = some (.rt v, e1, S1)
def Rx (s : Sx) (env : En) (S : Sto) (v : A) (S1 : Sto) : Prop := ∃ e1, ex Φ Γ s env S = some (.rt v, e1, S1)
end
section
variable {Φ : List Fs} {Γ : List PyData} {env : En} {S S1 S2 : Sto} {s : Sx} {ss a b : Ss} {t e : Ex} {v : A}
theorem s_run {n : Nat} {as : List A} (h : Rs Φ Γ a (as.map some ++ List.replicate (n - as.length) none) S v S1) : run Φ Γ n a as S = some (v, S1) := by
  obtain ⟨e1, h⟩ := h
  exact r_run h
theorem s_nx (e1 : En) (h : ex Φ Γ s env S = some (.nx, e1, S1)) (h2 : Rs Φ Γ ss e1 S1 v S2) : Rs Φ Γ (.cons s ss) env S v S2 := by
  obtain ⟨e2, h2⟩ := h2
  exact ⟨e2, r_nx h h2⟩
theorem s_rt (h : Rx Φ Γ s env S v S1) : Rs Φ Γ (.cons s ss) env S v S1 := by
  obtain ⟨e2, h⟩ := h
  exact ⟨e2, r_rt h⟩
theorem s_ret {x : PyData} (h : ev Φ Γ e env S = some (.d x, S1)) : Rx Φ Γ (.ret e) env S (.d x) S1 := ⟨env, r_ret h⟩
theorem s_ifT (h : ev Φ Γ t env S = some (.d (.bool true), S1)) (h2 : Rs Φ Γ a env S1 v S2) : Rx Φ Γ (.ifs t a b) env S v S2 := by
  obtain ⟨e2, h2⟩ := h2
  exact ⟨e2, r_ifT h h2⟩
theorem s_ifF (h : ev Φ Γ t env S = some (.d (.bool false), S1)) (h2 : Rs Φ Γ b env S1 v S2) : Rx Φ Γ (.ifs t a b) env S v S2 := by
  obtain ⟨e2, h2⟩ := h2
  exact ⟨e2, r_ifF h h2⟩
theorem f_nx {tg : Tg} {wl : List Nat} {x : PyData} {e1 e2 : En} (h1 : bnd Φ Γ tg (.d x) env S = some (e1, S)) (h2 : exs Φ Γ a e1 S = some (.nx, e2, S1)) : fF Φ Γ tg a wl x env S = some (.nx, wipeE e2 wl, S1) := by
  unfold fF
  rw [h1]
  simp [h2]
theorem f_rt {tg : Tg} {wl : List Nat} {x : PyData} {e1 : En} (h1 : bnd Φ Γ tg (.d x) env S = some (e1, S)) (h2 : Rs Φ Γ a e1 S v S1) : ∃ e3, fF Φ Γ tg a wl x env S = some (.rt v, e3, S1) := by
  obtain ⟨e2, h2⟩ := h2
  unfold fF
  rw [h1]
  simp [h2]
theorem s_for {tg : Tg} {it : Itx} {wl : List Nat} {xs : List PyData} {e1 : En} (h : evI Φ Γ it env S = some (xs, S1)) (h2 : forL (fF Φ Γ tg b wl) xs env S1 = some (.rt v, e1, S2)) : Rx Φ Γ (.for_ tg it b wl) env S v S2 := ⟨e1, r_for h h2⟩
/-- a test that fails and has no else -/
theorem n_ifF (h : ev Φ Γ t env S = some (.d (.bool false), S1)) : ex Φ Γ (.ifs t a .nil) env S = some (.nx, env, S1) := r_ifF h r_nil
end
section
variable (Φ : List Fs) (Γ : List PyData) (env : En) (S : Sto)
@[simp] theorem x_evs_nil : evs Φ Γ .nil env S = some ([], S) := by rw [evs]
@[simp] theorem x_evs_cons (e : Ex) (es : Exs) : evs Φ Γ (.cons e es) env S = match ev Φ Γ e env S with
    | none => none
    | some (a, S1) => match evs Φ Γ es env S1 with
      | none => none
      | some (as, S2) => some (a :: as, S2) := by
  first | (rw [evs]; done) | (rw [evs]; rfl)
@[simp] theorem x_and1 (e : Ex) : evAnd Φ Γ (.cons e .nil) env S = ev Φ Γ e env S := by
  rw [evAnd]
  cases h : ev Φ Γ e env S <;> simp [Exs.isNil]
@[simp] theorem x_and (e f : Ex) (es : Exs) : evAnd Φ Γ (.cons e (.cons f es)) env S = match ev Φ Γ e env S with
    | none => none
    | some (a, S1) => match tru S1 a with
      | none => none
      | some false => some (a, S1)
      | some true => evAnd Φ Γ (.cons f es) env S1 := by
  rw [evAnd]
  cases ev Φ Γ e env S <;> rfl
@[simp] theorem x_or1 (e : Ex) : evOr Φ Γ (.cons e .nil) env S = ev Φ Γ e env S := by
  rw [evOr]
  cases h : ev Φ Γ e env S <;> simp [Exs.isNil]
@[simp] theorem x_or (e f : Ex) (es : Exs) : evOr Φ Γ (.cons e (.cons f es)) env S = match ev Φ Γ e env S with
    | none => none
    | some (a, S1) => match tru S1 a with
      | none => none
      | some true => some (a, S1)
      | some false => evOr Φ Γ (.cons f es) env S1 := by
  rw [evOr]
  cases ev Φ Γ e env S <;> rfl
@[simp] theorem x_bnm (i : Nat) (a : A) : bnd Φ Γ (.nm i) a env S = some (env.set i (some a), S) := by rw [bnd]
@[simp] theorem x_btp (ts : Tgs) (xs : List PyData) : bnd Φ Γ (.tp ts) (.d (.tuple xs)) env S = if xs.length = ts.len then bnds Φ Γ ts (xs.map .d) env S else none := by rw [bnd]
@[simp] theorem x_bn : bnds Φ Γ .nil [] env S = some (env, S) := by rw [bnds]
@[simp] theorem x_bc (t : Tg) (ts : Tgs) (a : A) (as : List A) : bnds Φ Γ (.cons t ts) (a :: as) env S = match bnd Φ Γ t a env S with
      | none => none
      | some (env1, S1) => bnds Φ Γ ts as env1 S1 := by
  first | (rw [bnds]; done) | (rw [bnds]; rfl)
@[simp] theorem x_seq (e : Ex) : evI Φ Γ (.seq e) env S = match ev Φ Γ e env S with
    | none => none
    | some (a, S1) => seqF a S1 := by
  first | (rw [evI]; done) | (rw [evI]; rfl)
@[simp] theorem x_rng (e : Ex) : evI Φ Γ (.rng e) env S = match ev Φ Γ e env S with
    | some (.d (.int j), S1) => (rngF 0 j).map fun xs => (xs, S1)
    | _ => none := by
  first | (rw [evI]; done) | (rw [evI]; rfl)
@[simp] theorem x_enm (e : Ex) : evI Φ Γ (.enm e) env S = match ev Φ Γ e env S with
    | some (.d (.list xs), S1) => some (enmD xs, S1)
    | some (.d (.tuple xs), S1) => some (enmD xs, S1)
    | _ => none := by
  first | (rw [evI]; done) | (rw [evI]; rfl)
end
@[simp] theorem x_tl0 : Tgs.len .nil = 0 := rfl
@[simp] theorem x_tl1 (t : Tg) (ts : Tgs) : Tgs.len (.cons t ts) = ts.len + 1 := rfl
@[simp] theorem x_sn (i : Nat) : Tg.slots (.nm i) = [i] := by rw [Tg.slots]
@[simp] theorem x_st (ts : Tgs) : Tg.slots (.tp ts) = ts.slots := by rw [Tg.slots]
@[simp] theorem x_s0 : Tgs.slots .nil = [] := by rw [Tgs.slots]
@[simp] theorem x_s1 (t : Tg) (ts : Tgs) : Tgs.slots (.cons t ts) = t.slots ++ ts.slots := by rw [Tgs.slots]
@[simp] theorem x_w0 (env : En) : wipeE env [] = env := rfl
@[simp] theorem x_w1 (env : En) (i : Nat) (l : List Nat) : wipeE env (i :: l) = (wipeE env l).set i none := rfl
@[simp] theorem x_i0 : isD (.d .none) .none = some true := rfl
@[simp] theorem x_i1 (i : Int) : isD (.d (.int i)) .none = some false := rfl
@[simp] theorem x_i2 (i : Str) : isD (.d (.str i)) .none = some false := rfl
@[simp] theorem x_i3 (i : List PyData) : isD (.d (.tuple i)) .none = some false := rfl
@[simp] theorem x_i4 (i : List PyData) : isD (.d (.list i)) .none = some false := rfl
@[simp] theorem x_i5 (i : Bool) : isD (.d (.bool i)) .none = some false := rfl
end PV

namespace KL
open PySem PySem.Spec PyProof.Rows L2 PV
def topS (i : Nat) : Stmt := PySem.Challenge.pw_hoteldays_k49_whole_books_that_quarrel.main.body.getD i (.Pass ⟨0, 0, 0, 0⟩)
abbrev s_is_true : Stmt := topS 1
def b_is_true : Ss := .cons (.asg (.tp (.cons (.nm 2) (.cons (.nm 3) (.cons (.nm 4) (.cons (.nm 5) .nil))))) (.var 0)) (.cons (.ifs (.cmp .Eq (.var 2) (.cst (.str "loud"))) (.cons (.ret (.cmp .In (.var 4) (.var 1))) .nil) .nil) (.cons (.ifs (.cmp .Eq (.var 2) (.cst (.str "same"))) (.cons (.ret (.cmp .Eq (.cmp .In (.var 4) (.var 1)) (.cmp .In (.var 5) (.var 1)))) .nil) .nil) (.cons (.asg (.nm 6) (.blt .any (.cons (.comp (.nm 7) (.seq (.var 1)) .nil (.cmp .Lt (.blt .abs (.cons (.bin .Sub (.var 4) (.var 7)) .nil)) (.cst (.int 2)))) .nil))) (.cons (.ret (.cmp .Eq (.var 6) (.cmp .Eq (.var 2) (.cst (.str "noise"))))) .nil))))
def d_is_true : Df := ⟨"is_true", s_is_true, 2, ["entry", "loud", "word", "_", "room", "other", "heard", "one"], b_is_true⟩
-- 0:entry 1:loud 2:word 3:_ 4:room 5:other 6:heard 7:one
abbrev s_sets_of : Stmt := topS 2
def b_sets_of : Ss := .cons (.asg (.nm 1) (.lst (.cons (.tup .nil) .nil))) (.cons (.for_ (.nm 2) (.rng (.var 0)) (.cons (.asg (.nm 1) (.bin .Add (.var 1) (.comp (.nm 4) (.seq (.var 1)) .nil (.bin .Add (.var 4) (.tup (.cons (.var 2) .nil)))))) .nil) [2]) (.cons (.ret (.comp (.tp (.cons (.nm 3) (.cons (.nm 4) .nil))) (.seq (.blt .sorted (.cons (.comp (.nm 4) (.seq (.var 1)) .nil (.tup (.cons (.blt .len (.cons (.var 4) .nil)) (.cons (.var 4) .nil)))) .nil))) .nil (.var 4))) .nil))
def d_sets_of : Df := ⟨"sets_of", s_sets_of, 1, ["many", "found", "number", "_", "some"], b_sets_of⟩
-- 0:many 1:found 2:number 3:_ 4:some
abbrev s_loud_sets : Stmt := topS 3
def b_loud_sets : Ss := .cons (.asg (.nm 3) (.comp (.nm 4) (.seq (.var 1)) (.cons (.cmp .Eq (.ix (.var 4) (.cst (.int 1))) (.var 2)) .nil) (.var 4))) (.cons (.ret (.comp (.nm 5) (.seq (.call 1 (.cons (.var 0) .nil))) (.cons (.blt .all (.cons (.comp (.nm 4) (.seq (.var 3)) .nil (.call 0 (.cons (.var 4) (.cons (.var 5) .nil)))) .nil)) .nil) (.var 5))) .nil)
def d_loud_sets : Df := ⟨"loud_sets", s_loud_sets, 3, ["rooms", "entries", "hour", "own", "entry", "loud"], b_loud_sets⟩
-- 0:rooms 1:entries 2:hour 3:own 4:entry 5:loud
abbrev s_least_noise : Stmt := topS 5
def b_least_noise : Ss := .cons (.asg (.nm 3) (.tup .nil)) (.cons (.for_ (.nm 4) (.rng (.var 1)) (.cons (.asg (.nm 5) (.call 2 (.cons (.var 0) (.cons (.var 2) (.cons (.var 4) .nil))))) (.cons (.ifs (.not (.var 5)) (.cons (.ret (.cst .none)) .nil) .nil) (.cons (.asg (.nm 3) (.bin .Add (.var 3) (.tup (.cons (.ix (.var 5) (.cst (.int 0))) .nil)))) .nil))) [4, 5]) (.cons (.ret (.var 3)) .nil))
def d_least_noise : Df := ⟨"least_noise", s_least_noise, 3, ["rooms", "hours", "entries", "found", "hour", "sets"], b_least_noise⟩
-- 0:rooms 1:hours 2:entries 3:found 4:hour 5:sets
abbrev s_can_all : Stmt := topS 6
def b_can_all : Ss := .cons (.ret (.blt .all (.cons (.comp (.nm 3) (.rng (.var 1)) .nil (.cmp .NotEq (.call 2 (.cons (.var 0) (.cons (.var 2) (.cons (.var 3) .nil)))) (.lst .nil))) .nil))) .nil
def d_can_all : Df := ⟨"can_all", s_can_all, 3, ["rooms", "hours", "entries", "hour"], b_can_all⟩
-- 0:rooms 1:hours 2:entries 3:hour
abbrev s_first_quarrel : Stmt := topS 7
def b_first_quarrel : Ss := .cons (.for_ (.nm 3) (.rng (.var 1)) (.cons (.ifs (.not (.call 2 (.cons (.var 0) (.cons (.var 2) (.cons (.var 3) .nil))))) (.cons (.asg (.nm 4) (.comp (.tp (.cons (.nm 6) (.cons (.nm 7) .nil))) (.enm (.var 2)) (.cons (.cmp .Eq (.ix (.var 7) (.cst (.int 1))) (.var 3)) .nil) (.var 6))) (.cons (.for_ (.nm 5) (.seq (.call 1 (.cons (.blt .len (.cons (.var 4) .nil)) .nil))) (.cons (.ifs (.not (.call 2 (.cons (.var 0) (.cons (.comp (.nm 8) (.seq (.var 5)) .nil (.ix (.var 2) (.ix (.var 4) (.var 8)))) (.cons (.var 3) .nil))))) (.cons (.ret (.tup (.cons (.var 3) (.cons (.blt .tuple (.cons (.comp (.nm 8) (.seq (.var 5)) .nil (.ix (.var 4) (.var 8))) .nil)) .nil)))) .nil) .nil) .nil) [5]) .nil)) .nil) .nil) [3, 4, 5]) (.cons (.ret (.cst .none)) .nil)
def d_first_quarrel : Df := ⟨"first_quarrel", s_first_quarrel, 3, ["rooms", "hours", "entries", "hour", "own", "some", "number", "entry", "place"], b_first_quarrel⟩
-- 0:rooms 1:hours 2:entries 3:hour 4:own 5:some 6:number 7:entry 8:place
abbrev s_fewest_struck : Stmt := topS 8
def b_fewest_struck : Ss := .cons (.for_ (.nm 3) (.seq (.call 1 (.cons (.blt .len (.cons (.var 2) .nil)) .nil))) (.cons (.ifs (.call 4 (.cons (.var 0) (.cons (.var 1) (.cons (.comp (.tp (.cons (.nm 4) (.cons (.nm 5) .nil))) (.enm (.var 2)) (.cons (.cmp .NotIn (.var 4) (.var 3)) .nil) (.var 5)) .nil)))) (.cons (.ret (.var 3)) .nil) .nil) .nil) [3]) (.cons (.ret (.tup .nil)) .nil)
def d_fewest_struck : Df := ⟨"fewest_struck", s_fewest_struck, 3, ["rooms", "hours", "entries", "some", "number", "entry"], b_fewest_struck⟩
-- 0:rooms 1:hours 2:entries 3:some 4:number 5:entry
abbrev s__law_draw : Stmt := topS 10
def b__law_draw : Ss := .cons (.retO (.fresh (.lst (.cons (.blt .list (.cons (.var 0) .nil)) (.cons (.cst (.int 0)) (.cons (.cst (.int 0)) (.cons (.cst (.int 17)) .nil))))))) .nil
def d__law_draw : Df := ⟨"_law_draw", s__law_draw, 1, ["script"], b__law_draw⟩
-- 0:script
abbrev s__law_next : Stmt := topS 11
def b__law_next : Ss := .cons (.ifs (.cmp .Gt (.ix (.var 0) (.cst (.int 2))) (.cst (.int 0))) (.cons (.asg (.nm 2) (.bin .Mod (.blt .int (.cons (.ix (.var 0) (.cst (.int 2))) .nil)) (.var 1))) (.cons (.asg (.sub (.var 0) (.cst (.int 2))) (.bin .FloorDiv (.ix (.var 0) (.cst (.int 2))) (.var 1))) (.cons (.ret (.var 2)) .nil))) .nil) (.cons (.ifs (.cmp .Lt (.ix (.var 0) (.cst (.int 1))) (.blt .len (.cons (.ix (.var 0) (.cst (.int 0))) .nil))) (.cons (.asg (.nm 3) (.blt .abs (.cons (.ix (.ix (.var 0) (.cst (.int 0))) (.ix (.var 0) (.cst (.int 1)))) .nil))) (.cons (.asg (.sub (.var 0) (.cst (.int 1))) (.bin .Add (.ix (.var 0) (.cst (.int 1))) (.cst (.int 1)))) (.cons (.ifs (.cmp .GtE (.var 3) (.bin .Pow (.cst (.int 10)) (.cst (.int 18)))) (.cons (.asg (.sub (.var 0) (.cst (.int 2))) (.bin .FloorDiv (.var 3) (.var 1))) (.cons (.ret (.bin .Mod (.blt .int (.cons (.var 3) .nil)) (.var 1))) .nil)) .nil) (.cons (.asg (.sub (.var 0) (.cst (.int 3))) (.bin .Mod (.blt .int (.cons (.bin .Add (.bin .Add (.bin .Mult (.ix (.var 0) (.cst (.int 3))) (.cst (.int 48271))) (.var 3)) (.cst (.int 11))) .nil)) (.cst (.int 2147483647)))) .nil)))) (.cons (.asg (.sub (.var 0) (.cst (.int 3))) (.bin .Mod (.blt .int (.cons (.bin .Add (.bin .Mult (.ix (.var 0) (.cst (.int 3))) (.cst (.int 48271))) (.cst (.int 12345))) .nil)) (.cst (.int 2147483647)))) .nil)) (.cons (.ret (.bin .Mod (.bin .FloorDiv (.blt .int (.cons (.bin .Mod (.bin .Mult (.ix (.var 0) (.cst (.int 3))) (.cst (.int 69621))) (.cst (.int 2147483629))) .nil)) (.cst (.int 7))) (.var 1))) .nil))
def d__law_next : Df := ⟨"_law_next", s__law_next, 2, ["draw", "many", "found", "cell"], b__law_next⟩
-- 0:draw 1:many 2:found 3:cell
abbrev s__law_same : Stmt := topS 12
def b__law_same : Ss := .cons (.ifs (.isi (.var 1) [.list, .tuple]) (.cons (.ifs (.or (.cons (.cmp .NotEq (.isi (.var 1) [.list]) (.isi (.var 0) [.list])) (.cons (.cmp .NotEq (.isi (.var 1) [.tuple]) (.isi (.var 0) [.tuple])) .nil))) (.cons (.ret (.cst (.bool false))) .nil) .nil) (.cons (.ifs (.cmp .NotEq (.blt .len (.cons (.var 0) .nil)) (.blt .len (.cons (.var 1) .nil))) (.cons (.ret (.cst (.bool false))) .nil) .nil) (.cons (.ret (.blt .all (.cons (.comp (.nm 2) (.rng (.blt .len (.cons (.var 1) .nil))) .nil (.call 9 (.cons (.ix (.var 0) (.var 2)) (.cons (.ix (.var 1) (.var 2)) .nil)))) .nil))) .nil))) .nil) (.cons (.ifs (.cmp .Is (.var 1) (.cst .none)) (.cons (.ret (.cmp .Is (.var 0) (.cst .none))) .nil) .nil) (.cons (.ifs (.cmp .NotEq (.isi (.var 1) [.bool]) (.isi (.var 0) [.bool])) (.cons (.ret (.cst (.bool false))) .nil) .nil) (.cons (.ifs (.isi (.var 1) [.str]) (.cons (.ret (.and (.cons (.isi (.var 0) [.str]) (.cons (.cmp .Eq (.var 0) (.var 1)) .nil)))) .nil) .nil) (.cons (.ret (.and (.cons (.isi (.var 0) [.int]) (.cons (.cmp .Eq (.var 0) (.var 1)) .nil)))) .nil))))
def d__law_same : Df := ⟨"_law_same", s__law_same, 2, ["actual", "wanted", "k"], b__law_same⟩
-- 0:actual 1:wanted 2:k
abbrev s__law_sets : Stmt := topS 13
def b__law_sets : Ss := .cons (.asg (.nm 1) (.lst (.cons (.tup .nil) .nil))) (.cons (.for_ (.nm 2) (.seq (.var 0)) (.cons (.asg (.nm 1) (.bin .Add (.var 1) (.comp (.nm 4) (.seq (.var 1)) .nil (.bin .Add (.var 4) (.tup (.cons (.var 2) .nil)))))) .nil) [2]) (.cons (.ret (.comp (.nm 3) (.seq (.blt .sorted (.cons (.comp (.nm 4) (.seq (.var 1)) .nil (.tup (.cons (.blt .len (.cons (.var 4) .nil)) (.cons (.var 4) .nil)))) .nil))) .nil (.ix (.var 3) (.cst (.int 1))))) .nil))
def d__law_sets : Df := ⟨"_law_sets", s__law_sets, 1, ["names", "found", "name", "row", "some"], b__law_sets⟩
-- 0:names 1:found 2:name 3:row 4:some
abbrev s__law_entries : Stmt := topS 14
def b__law_entries : Ss := .cons (.asg (.nm 4) (.tup .nil)) (.cons (.for_ (.nm 5) (.rng (.call 8 (.cons (.var 0) (.cons (.bin .Add (.var 3) (.cst (.int 1))) .nil)))) (.cons (.par (.cons (.nm 6) (.cons (.nm 7) .nil)) (.cons (.ix (.lst (.cons (.cst (.str "noise")) (.cons (.cst (.str "noise")) (.cons (.cst (.str "quiet")) (.cons (.cst (.str "loud")) (.cons (.cst (.str "same")) .nil)))))) (.call 8 (.cons (.var 0) (.cons (.ite (.cmp .Gt (.var 1) (.cst (.int 1))) (.cst (.int 5)) (.cst (.int 4))) .nil)))) (.cons (.call 8 (.cons (.var 0) (.cons (.var 1) .nil))) .nil))) (.cons (.asg (.nm 8) (.comp (.nm 9) (.rng (.var 1)) (.cons (.cmp .NotEq (.var 9) (.var 7)) .nil) (.var 9))) (.cons (.asg (.nm 4) (.bin .Add (.var 4) (.tup (.cons (.tup (.cons (.var 6) (.cons (.call 8 (.cons (.var 0) (.cons (.var 2) .nil))) (.cons (.var 7) (.cons (.ite (.cmp .Eq (.var 6) (.cst (.str "same"))) (.ix (.var 8) (.call 8 (.cons (.var 0) (.cons (.blt .len (.cons (.var 8) .nil)) .nil)))) (.cst .none)) .nil))))) .nil)))) .nil))) [5, 6, 7, 8]) (.cons (.ret (.var 4)) .nil))
def d__law_entries : Df := ⟨"_law_entries", s__law_entries, 4, ["draw", "rooms", "hours", "most", "found", "k", "word", "room", "other", "one"], b__law_entries⟩
-- 0:draw 1:rooms 2:hours 3:most 4:found 5:k 6:word 7:room 8:other 9:one
abbrev s__law_true : Stmt := topS 15
def b__law_true : Ss := .cons (.asg (.tp (.cons (.nm 2) (.cons (.nm 3) (.cons (.nm 4) (.cons (.nm 5) .nil))))) (.var 0)) (.cons (.ifs (.cmp .Eq (.var 2) (.cst (.str "same"))) (.cons (.ret (.or (.cons (.and (.cons (.cmp .In (.var 4) (.var 1)) (.cons (.cmp .In (.var 5) (.var 1)) .nil))) (.cons (.and (.cons (.cmp .NotIn (.var 4) (.var 1)) (.cons (.cmp .NotIn (.var 5) (.var 1)) .nil))) .nil)))) .nil) .nil) (.cons (.ifs (.cmp .Eq (.var 2) (.cst (.str "loud"))) (.cons (.ret (.cmp .In (.var 4) (.var 1))) .nil) .nil) (.cons (.ret (.cmp .Eq (.or (.cons (.cmp .In (.bin .Sub (.var 4) (.cst (.int 1))) (.var 1)) (.cons (.cmp .In (.var 4) (.var 1)) (.cons (.cmp .In (.bin .Add (.var 4) (.cst (.int 1))) (.var 1)) .nil)))) (.cmp .Eq (.var 2) (.cst (.str "noise"))))) .nil)))
def d__law_true : Df := ⟨"_law_true", s__law_true, 2, ["entry", "loud", "word", "hour", "room", "other"], b__law_true⟩
-- 0:entry 1:loud 2:word 3:hour 4:room 5:other
abbrev s__law_loud : Stmt := topS 16
def b__law_loud : Ss := .cons (.ret (.comp (.nm 3) (.seq (.call 10 (.cons (.lrg (.var 0)) .nil))) (.cons (.not (.blt .any (.cons (.comp (.nm 4) (.seq (.var 1)) .nil (.and (.cons (.cmp .Eq (.ix (.var 4) (.cst (.int 1))) (.var 2)) (.cons (.not (.call 12 (.cons (.var 4) (.cons (.var 3) .nil)))) .nil)))) .nil))) .nil) (.var 3))) .nil
def d__law_loud : Df := ⟨"_law_loud", s__law_loud, 3, ["rooms", "entries", "hour", "loud", "entry"], b__law_loud⟩
-- 0:rooms 1:entries 2:hour 3:loud 4:entry
abbrev s_law : Stmt := topS 17
def b_law : Ss := .cons (.asg (.nm 1) (.call 7 (.cons (.var 0) .nil))) (.cons (.par (.cons (.nm 2) (.cons (.nm 3) .nil)) (.cons (.bin .Add (.cst (.int 1)) (.call 8 (.cons (.var 1) (.cons (.cst (.int 3)) .nil)))) (.cons (.bin .Add (.cst (.int 1)) (.call 8 (.cons (.var 1) (.cons (.cst (.int 2)) .nil)))) .nil))) (.cons (.asg (.nm 4) (.call 11 (.cons (.var 1) (.cons (.var 2) (.cons (.var 3) (.cons (.cst (.int 5)) .nil)))))) (.cons (.par (.cons (.nm 5) (.cons (.nm 6) .nil)) (.cons (.lrg (.blt .len (.cons (.var 4) .nil))) (.cons (.cst .none) .nil))) (.cons (.for_ (.nm 7) (.rng (.var 3)) (.cons (.asg (.nm 11) (.comp (.nm 14) (.seq (.var 5)) (.cons (.cmp .Eq (.ix (.ix (.var 4) (.var 14)) (.cst (.int 1))) (.var 7)) .nil) (.var 14))) (.cons (.asg (.nm 12) (.comp (.nm 9) (.seq (.call 10 (.cons (.var 11) .nil))) (.cons (.cmp .Eq (.call 13 (.cons (.var 2) (.cons (.comp (.nm 14) (.seq (.var 9)) .nil (.ix (.var 4) (.var 14))) (.cons (.var 7) .nil)))) (.lst .nil)) .nil) (.var 9))) (.cons (.asg (.nm 6) (.ite (.and (.cons (.cmp .Is (.var 6) (.cst .none)) (.cons (.cmp .NotEq (.var 12) (.lst .nil)) .nil))) (.tup (.cons (.var 7) (.cons (.ix (.var 12) (.cst (.int 0))) .nil))) (.var 6))) .nil))) [7, 11, 12]) (.cons (.ifs (.not (.call 9 (.cons (.call 5 (.cons (.var 2) (.cons (.var 3) (.cons (.var 4) .nil)))) (.cons (.var 6) .nil)))) (.cons (.ret (.cst (.bool false))) .nil) .nil) (.cons (.asg (.nm 8) (.cst .none)) (.cons (.for_ (.nm 9) (.seq (.call 10 (.cons (.var 5) .nil))) (.cons (.asg (.nm 13) (.comp (.nm 14) (.seq (.var 5)) (.cons (.cmp .NotIn (.var 14) (.var 9)) .nil) (.ix (.var 4) (.var 14)))) (.cons (.ifs (.and (.cons (.cmp .Is (.var 8) (.cst .none)) (.cons (.blt .all (.cons (.comp (.nm 7) (.rng (.var 3)) .nil (.cmp .NotEq (.call 13 (.cons (.var 2) (.cons (.var 13) (.cons (.var 7) .nil)))) (.lst .nil))) .nil)) .nil))) (.cons (.asg (.nm 8) (.var 9)) .nil) .nil) .nil)) [9, 13]) (.cons (.asg (.nm 10) (.call 6 (.cons (.var 2) (.cons (.var 3) (.cons (.var 4) .nil))))) (.cons (.ifs (.or (.cons (.not (.call 9 (.cons (.var 10) (.cons (.var 8) .nil)))) (.cons (.cmp .NotEq (.cmp .Eq (.var 10) (.tup .nil)) (.cmp .Is (.var 6) (.cst .none))) .nil))) (.cons (.ret (.cst (.bool false))) .nil) .nil) (.cons (.ret (.cmp .IsNot (.call 3 (.cons (.var 2) (.cons (.var 3) (.cons (.blt .tuple (.cons (.comp (.nm 14) (.seq (.var 5)) (.cons (.cmp .NotIn (.var 14) (.var 10)) .nil) (.ix (.var 4) (.var 14))) .nil)) .nil)))) (.cst .none))) .nil))))))))))
def d_law : Df := ⟨"law", s_law, 1, ["script", "draw", "rooms", "hours", "entries", "numbers", "due", "hour", "good", "some", "told", "own", "bad", "left", "k"], b_law⟩
-- 0:script 1:draw 2:rooms 3:hours 4:entries 5:numbers 6:due 7:hour 8:good 9:some 10:told 11:own 12:bad 13:left 14:k
def ds : List Df := [d_is_true, d_sets_of, d_loud_sets, d_least_noise, d_can_all, d_first_quarrel, d_fewest_struck, d__law_draw, d__law_next, d__law_same, d__law_sets, d__law_entries, d__law_true, d__law_loud, d_law]
def gl : List Str := []
theorem ag_is_true : dfOk (nmOf ds gl) d_is_true = true := by decide +kernel
theorem ag_sets_of : dfOk (nmOf ds gl) d_sets_of = true := by decide +kernel
theorem ag_loud_sets : dfOk (nmOf ds gl) d_loud_sets = true := by decide +kernel
theorem ag_least_noise : dfOk (nmOf ds gl) d_least_noise = true := by decide +kernel
theorem ag_can_all : dfOk (nmOf ds gl) d_can_all = true := by decide +kernel
theorem ag_first_quarrel : dfOk (nmOf ds gl) d_first_quarrel = true := by decide +kernel
theorem ag_fewest_struck : dfOk (nmOf ds gl) d_fewest_struck = true := by decide +kernel
theorem ag__law_draw : dfOk (nmOf ds gl) d__law_draw = true := by decide +kernel
theorem ag__law_next : dfOk (nmOf ds gl) d__law_next = true := by decide +kernel
theorem ag__law_same : dfOk (nmOf ds gl) d__law_same = true := by decide +kernel
theorem ag__law_sets : dfOk (nmOf ds gl) d__law_sets = true := by decide +kernel
theorem ag__law_entries : dfOk (nmOf ds gl) d__law_entries = true := by decide +kernel
theorem ag__law_true : dfOk (nmOf ds gl) d__law_true = true := by decide +kernel
theorem ag__law_loud : dfOk (nmOf ds gl) d__law_loud = true := by decide +kernel
theorem ag_law : dfOk (nmOf ds gl) d_law = true := by decide +kernel
theorem ag : ds.all (dfOk (nmOf ds gl)) = true := by
  unfold ds
  simp only [List.all_cons, List.all_nil, Bool.and_true, Bool.and_eq_true]
  exact ⟨ag_is_true, ag_sets_of, ag_loud_sets, ag_least_noise, ag_can_all, ag_first_quarrel, ag_fewest_struck, ag__law_draw, ag__law_next, ag__law_same, ag__law_sets, ag__law_entries, ag__law_true, ag__law_loud, ag_law⟩
end KL

namespace KL
open PySem PySem.Spec PyProof.Rows L2 PV
structure E where
  w : Str
  h : Int
  r : Int
  o : Option Int
def encO : Option Int → PyData
  | none => .none
  | some i => .int i
def E.enc (e : E) : PyData := .tuple [.str e.w, .int e.h, .int e.r, encO e.o]
def E.ok (e : E) : Prop := ((e.w = "loud" ∨ e.w = "noise" ∨ e.w = "quiet") ∧ e.o = none) ∨ (e.w = "same" ∧ ∃ i, e.o = some i)
def T (e : E) (l : List Int) : Bool :=
  if e.w = "same" then decide (decide (e.r ∈ l) = decide (e.o.getD 0 ∈ l)) else
  if e.w = "loud" then decide (e.r ∈ l) else
  decide (decide (e.r - 1 ∈ l ∨ e.r ∈ l ∨ e.r + 1 ∈ l) = decide (e.w = "noise"))
theorem sl : ¬ (("same" : Str) = "loud") := by decide +kernel
theorem ls : ¬ (("loud" : Str) = "same") := by decide +kernel
theorem sn : ¬ (("same" : Str) = "noise") := by decide +kernel
theorem sq : ¬ (("same" : Str) = "quiet") := by decide +kernel
theorem near (r : Int) (l : List Int) : (l.any fun x => decide ((if r - x < 0 then -(r - x) else r - x) < 2)) = decide (r - 1 ∈ l ∨ r ∈ l ∨ r + 1 ∈ l) := by
  rw [Bool.eq_iff_iff]
  simp only [List.any_eq_true, decide_eq_true_eq]
  constructor
  · rintro ⟨x, hx, h⟩
    have : x = r - 1 ∨ x = r ∨ x = r + 1 := by
      split at h <;> omega
    rcases this with e | e | e
    · exact .inl (e ▸ hx)
    · exact .inr (.inl (e ▸ hx))
    · exact .inr (.inr (e ▸ hx))
  · rintro (h | h | h)
    · exact ⟨_, h, by split <;> omega⟩
    · exact ⟨_, h, by split <;> omega⟩
    · exact ⟨_, h, by split <;> omega⟩
theorem m_is_true (Φ : List Fs) (e : E) (l : List Int) (S : Sto) (he : e.ok) : run Φ [] 8 b_is_true [.d e.enc, .d (encL l)] S = some (.d (.bool (T e l)), S) := by
  obtain ⟨w, h, r, o⟩ := e
  unfold b_is_true
  refine s_run (s_nx [some (.d (.tuple [.str w, .int h, .int r, encO o])), some (.d (encL l)), some (.d (.str w)), some (.d (.int h)), some (.d (.int r)), some (.d (encO o)), none, none] (S1 := S) (r_asgt (v := .d (.tuple [.str w, .int h, .int r, encO o])) (S1 := S) (by simp [E.enc]) (by simp [E.enc])) ?_)
  by_cases h1 : w = "loud"
  · refine s_rt (s_ifT (S1 := S) (by simp [h1]) (s_rt (s_ret ?_)))
    subst h1
    simp [T, ls]
  · refine s_nx _ (n_ifF (S1 := S) (by simp [h1])) ?_
    by_cases h2 : w = "same"
    · refine s_rt (s_ifT (S1 := S) (by simp [h2]) (s_rt (s_ret ?_)))
      subst h2
      rcases he with ⟨h3 | h3 | h3, _⟩ | ⟨_, i, h3⟩
      · exact absurd h3 sl
      · exact absurd h3 sn
      · exact absurd h3 sq
      · have h3 : o = some i := h3
        subst h3
        simp [T, encO]
    · refine s_nx _ (n_ifF (S1 := S) (by simp [h2])) ?_
      have hc : ev Φ [] (.comp (.nm 7) (.seq (.var 1)) .nil (.cmp .Lt (.blt .abs (.cons (.bin .Sub (.var 4) (.var 7)) .nil)) (.cst (.int 2)))) [some (.d (.tuple [.str w, .int h, .int r, encO o])), some (.d (encL l)), some (.d (.str w)), some (.d (.int h)), some (.d (.int r)), some (.d (encO o)), none, none] S = some (.d (.list (l.map fun x => .bool (decide ((if r - x < 0 then -(r - x) else r - x) < 2)))), S) := by
        refine q_map PyData.int _ l (by simp [encL]) fun x hx => ?_
        refine r_cf (by simp; rfl) ?_
        simp [bltD]
      refine s_nx _ (r_asg (r_blt hc (any_ok _ l))) ?_
      refine s_rt (s_ret ?_)
      rw [near]
      simp [T, h1, h2]
theorem m_law_true (Φ : List Fs) (e : E) (l : List Int) (S : Sto) (he : e.ok) : run Φ [] 6 b__law_true [.d e.enc, .d (encL l)] S = some (.d (.bool (T e l)), S) := by
  obtain ⟨w, h, r, o⟩ := e
  unfold b__law_true
  refine s_run (s_nx [some (.d (.tuple [.str w, .int h, .int r, encO o])), some (.d (encL l)), some (.d (.str w)), some (.d (.int h)), some (.d (.int r)), some (.d (encO o))] (S1 := S) (r_asgt (v := .d (.tuple [.str w, .int h, .int r, encO o])) (S1 := S) (by simp [E.enc]) (by simp [E.enc])) ?_)
  by_cases h2 : w = "same"
  · refine s_rt (s_ifT (S1 := S) (by simp [h2]) (s_rt (s_ret ?_)))
    subst h2
    rcases he with ⟨h3 | h3 | h3, _⟩ | ⟨_, i, h3⟩
    · exact absurd h3 sl
    · exact absurd h3 sn
    · exact absurd h3 sq
    · have h3 : o = some i := h3
      subst h3
      by_cases hr : r ∈ l <;> by_cases hi : i ∈ l <;> simp [T, encO, hr, hi]
  · refine s_nx _ (n_ifF (S1 := S) (by simp [h2])) ?_
    by_cases h1 : w = "loud"
    · refine s_rt (s_ifT (S1 := S) (by simp [h1]) (s_rt (s_ret ?_)))
      subst h1
      simp [T, ls]
    · refine s_nx _ (n_ifF (S1 := S) (by simp [h1])) (s_rt (s_ret ?_))
      by_cases ha : r - 1 ∈ l <;> by_cases hb : r ∈ l <;> by_cases hc : r + 1 ∈ l <;> simp [T, h1, h2, ha, hb, hc]
/-! sets -/
theorem sets_step {Φ : List Fs} {f : List (List Int)} {x : Int} {S : Sto} {a : Option A} (hf : f.length * 2 ≤ 1048576) (hl : ∀ s ∈ f, s.length < 1000) :
    ex Φ [] (.asg (.nm 1) (.bin .Add (.var 1) (.comp (.nm 4) (.seq (.var 1)) .nil (.bin .Add (.var 4) (.tup (.cons (.var 2) .nil)))))) [a, some (.d (.list (f.map encL))), some (.d (.int x)), none, none] S = some (.nx, [a, some (.d (.list ((f ++ f.map fun s => s ++ [x]).map encL))), some (.d (.int x)), none, none], S) := by
  have hc : ev Φ [] (.comp (.nm 4) (.seq (.var 1)) .nil (.bin .Add (.var 4) (.tup (.cons (.var 2) .nil)))) [a, some (.d (.list (f.map encL))), some (.d (.int x)), none, none] S = some (.d (.list (f.map fun s => encL (s ++ [x]))), S) := by
    refine q_map encL _ f (by simp) fun s hs => ?_
    refine r_cf (by simp; rfl) ?_
    have h := bin_tup (s.map .int) [.int x] (by have := hl s hs; simp; omega)
    simp [encL, h]
  have hb := bin_app (f.map encL) (f.map fun s => encL (s ++ [x])) (by simp; omega)
  refine r_asg (v := .d (.list ((f ++ f.map fun s => s ++ [x]).map encL))) ?_
  simp [hc, hb, Function.comp_def]
theorem sets_loop {Φ : List Fs} {S : Sto} {a : Option A} (xs : List Int) (hx : xs.length ≤ 20) :
    forL (fF Φ [] (.nm 2) (.cons (.asg (.nm 1) (.bin .Add (.var 1) (.comp (.nm 4) (.seq (.var 1)) .nil (.bin .Add (.var 4) (.tup (.cons (.var 2) .nil)))))) .nil) [2]) (xs.map .int) [a, some (.d (.list [.tuple []])), none, none, none] S = some (.nx, [a, some (.d (.list ((bld xs).map encL))), none, none, none], S) := by
  refine forL_inv (α := Int) (σ := List (List Int)) PyData.int _ (fun st => [a, some (.d (.list (st.map encL))), none, none, none]) S (fun f x => f ++ f.map fun s => s ++ [x]) (fun r st => st.length * 2 ^ r.length ≤ 1048576 ∧ ∀ s ∈ st, s.length + r.length ≤ 20) (fun x r st ⟨i1, i2⟩ => ?_) xs [[]] ⟨?_, ?_⟩
  · rw [List.length_cons, Nat.pow_succ] at i1
    have p : 1 ≤ 2 ^ r.length := Nat.one_le_two_pow
    have i1' : st.length * 2 * 2 ^ r.length ≤ 1048576 := by
      rw [Nat.mul_assoc, Nat.mul_comm 2]
      exact i1
    refine ⟨?_, ?_, ?_⟩
    · refine (f_nx (e1 := [a, some (.d (.list (st.map encL))), some (.d (.int x)), none, none]) (by simp) (r_nx (sets_step ?_ fun s hs => ?_) r_nil)).trans ?_
      · have := Nat.mul_le_mul_left (st.length * 2) p
        omega
      · have := i2 s hs
        rw [List.length_cons] at this
        omega
      · simp
    · rw [List.length_append, List.length_map]
      have : st.length + st.length = st.length * 2 := by omega
      rw [this]
      exact i1'
    · intro s hs
      rcases List.mem_append.mp hs with hs | hs
      · have := i2 s hs
        rw [List.length_cons] at this
        omega
      · obtain ⟨s', hs', rfl⟩ := List.mem_map.mp hs
        have := i2 s' hs'
        rw [List.length_cons] at this
        simp
        omega
  · have : 2 ^ xs.length ≤ 2 ^ 20 := Nat.pow_le_pow_right (by omega) hx
    simpa using this
  · intro s hs
    simp at hs
    subst hs
    simpa using hx
theorem sorted_P {Φ : List Fs} {S : Sto} {a : Option A} (L : List (List Int)) : ev Φ [] (.blt .sorted (.cons (.comp (.nm 4) (.seq (.var 1)) .nil (.tup (.cons (.blt .len (.cons (.var 4) .nil)) (.cons (.var 4) .nil)))) .nil)) [a, some (.d (.list (L.map encL))), none, none, none] S = some (.d (.list ((L.mergeSort leS).map encP)), S) := by
  refine r_blt (q_map encL encP L (by simp) fun s hs => ?_) ?_
  · refine r_cf (by simp; rfl) ?_
    simp [bltD, encP, encL]
  · simp only [bltD, sort_P]
    rfl
theorem m_law_sets (Φ : List Fs) (xs : List Int) (S : Sto) (hx : xs.length ≤ 20) : run Φ [] 5 b__law_sets [.d (.list (xs.map .int))] S = some (.d (.list ((setsL xs).map encL)), S) := by
  unfold b__law_sets
  refine s_run (s_nx [some (.d (.list (xs.map .int))), some (.d (.list [.tuple []])), none, none, none] (S1 := S) (r_asg (v := .d (.list [.tuple []])) (S1 := S) (by simp)) (s_nx _ (r_for (xs := xs.map .int) (S1 := S) (by simp) (sets_loop xs hx)) (s_rt (s_ret ?_))))
  refine q_map encP encL (setsL xs) ?_ fun s hs => ?_
  · rw [x_seq, sorted_P]
    rfl
  · refine r_cf (by simp; rfl) ?_
    simp [encP, ixD]
def rI (n : Nat) : List Int := (List.range n).map fun (k : Nat) => (k : Int)
theorem rI_int (n : Nat) : (rI n).map PyData.int = (List.range n).map fun (k : Nat) => PyData.int (k : Int) := by
  unfold rI
  rw [List.map_map]
  rfl
theorem m_sets_of (Φ : List Fs) (n : Nat) (S : Sto) (hx : n ≤ 20) : run Φ [] 5 b_sets_of [.d (.int n)] S = some (.d (.list ((setsL (rI n)).map encL)), S) := by
  unfold b_sets_of
  have hr := rng_nat n (by omega)
  have hl := sets_loop (Φ := Φ) (S := S) (a := some (.d (.int n))) (rI n) (by simpa [rI] using hx)
  rw [rI_int] at hl
  refine s_run (s_nx [some (.d (.int n)), some (.d (.list [.tuple []])), none, none, none] (S1 := S) (r_asg (v := .d (.list [.tuple []])) (S1 := S) (by simp)) (s_nx _ (r_for (xs := (List.range n).map fun (k : Nat) => PyData.int (k : Int)) (S1 := S) (by simp [hr]) hl) (s_rt (s_ret ?_))))
  refine q_map encP encL (setsL (rI n)) ?_ fun s hs => ?_
  · rw [x_seq, sorted_P]
    rfl
  · refine r_cf (by simp [encP]; rfl) ?_
    simp [encP]
/-! loud sets -/
def F (k : Nat) : List Fs := Ph [] ds k
theorem g0 (k : Nat) : (F (k + 1))[0]? = some (run (F k) [] 8 b_is_true) := rfl
theorem g1 (k : Nat) : (F (k + 1))[1]? = some (run (F k) [] 5 b_sets_of) := rfl
theorem g2 (k : Nat) : (F (k + 1))[2]? = some (run (F k) [] 6 b_loud_sets) := rfl
theorem g3 (k : Nat) : (F (k + 1))[3]? = some (run (F k) [] 6 b_least_noise) := rfl
theorem g4 (k : Nat) : (F (k + 1))[4]? = some (run (F k) [] 4 b_can_all) := rfl
theorem g5 (k : Nat) : (F (k + 1))[5]? = some (run (F k) [] 9 b_first_quarrel) := rfl
theorem g6 (k : Nat) : (F (k + 1))[6]? = some (run (F k) [] 6 b_fewest_struck) := rfl
theorem g7 (k : Nat) : (F (k + 1))[7]? = some (run (F k) [] 1 bDraw) := rfl
theorem g8 (k : Nat) : (F (k + 1))[8]? = some (run (F k) [] 4 bNext) := rfl
theorem g9 (k : Nat) : (F (k + 1))[9]? = some (run (F k) [] 3 (bSame 9)) := rfl
theorem g10 (k : Nat) : (F (k + 1))[10]? = some (run (F k) [] 5 b__law_sets) := rfl
theorem g11 (k : Nat) : (F (k + 1))[11]? = some (run (F k) [] 10 b__law_entries) := rfl
theorem g12 (k : Nat) : (F (k + 1))[12]? = some (run (F k) [] 6 b__law_true) := rfl
theorem g13 (k : Nat) : (F (k + 1))[13]? = some (run (F k) [] 5 b__law_loud) := rfl
theorem g14 (k : Nat) : (F (k + 1))[14]? = some (run (F k) [] 15 b_law) := rfl
def Lo (rooms : Nat) (es : List E) (hour : Int) : List (List Int) := (setsL (rI rooms)).filter fun l => (es.filter fun e => decide (e.h = hour)).all fun e => T e l
def Es (X : PyData) (es : List E) : Prop := X = .list (es.map E.enc) ∨ X = .tuple (es.map E.enc)
theorem Es.seq {X : PyData} {es : List E} (h : Es X es) (S : Sto) : seqF (.d X) S = some (es.map E.enc, S) := by
  rcases h with rfl | rfl <;> rfl
theorem m_loud_sets (k : Nat) (rooms : Nat) (es : List E) (X : PyData) (hour : Int) (S : Sto) (hr : rooms ≤ 20) (hes : ∀ e ∈ es, e.ok) (hX : Es X es) :
    run (F (k + 1)) [] 6 b_loud_sets [.d (.int rooms), .d X, .d (.int hour)] S = some (.d (.list ((Lo rooms es hour).map encL)), S) := by
  unfold b_loud_sets
  have h1 : ev (F (k + 1)) [] (.comp (.nm 4) (.seq (.var 1)) (.cons (.cmp .Eq (.ix (.var 4) (.cst (.int 1))) (.var 2)) .nil) (.var 4)) [some (.d (.int rooms)), some (.d X), some (.d (.int hour)), none, none, none] S = some (.d (.list ((es.filter fun e => decide (e.h = hour)).map E.enc)), S) := by
    refine q_filt E.enc E.enc (fun e => decide (e.h = hour)) es ?_ fun e he => ?_
    · simp [hX.seq]
    · refine r_cfi (v := .d (.bool (decide (e.h = hour)))) (by simp; rfl) ?_ rfl fun _ => ?_
      · simp [E.enc, ixD]
      · simp
  refine s_run (s_nx _ (r_asg h1) (s_rt (s_ret ?_)))
  refine q_filt encL encL (fun l => (es.filter fun e => decide (e.h = hour)).all fun e => T e l) (setsL (rI rooms)) ?_ fun l hl => ?_
  · have := r_call0 (Φ := F (k + 1)) (Γ := []) (env := [some (.d (.int rooms)), some (.d X), some (.d (.int hour)), some (.d (.list ((es.filter fun e => decide (e.h = hour)).map E.enc))), none, none]) (S := S) (S1 := S) (f := 1) (es := .cons (.var 0) .nil) (as := [.d (.int rooms)]) (by simp) (g1 k) (m_sets_of (F k) rooms S hr)
    simp [this]
  · refine r_cfi (v := .d (.bool ((es.filter fun e => decide (e.h = hour)).all fun e => T e l))) (by simp; rfl) ?_ rfl fun _ => ?_
    · refine r_blt (q_map E.enc (fun e => .bool (T e l)) (es.filter fun e => decide (e.h = hour)) (by simp) fun e he => ?_) (all_ok _ _)
      refine r_cf (by simp; rfl) ?_
      exact r_call0 (as := [.d e.enc, .d (encL l)]) (by simp) (g0 k) (m_is_true (F k) e l S (hes e (List.mem_filter.mp he).1))
    · simp
theorem loud_test (es : List E) (hour : Int) (l : List Int) : (!(es.any fun e => decide (e.h = hour) && !T e l)) = (es.filter fun e => decide (e.h = hour)).all fun e => T e l := by
  induction es with
  | nil => rfl
  | cons e es ih =>
    rw [List.any_cons, List.filter_cons]
    by_cases h : e.h = hour <;> simp [h, ← ih]
theorem m_law_loud (k : Nat) (rooms : Nat) (es : List E) (X : PyData) (hour : Int) (S : Sto) (hr : rooms ≤ 20) (hes : ∀ e ∈ es, e.ok) (hX : Es X es) :
    run (F (k + 1)) [] 5 b__law_loud [.d (.int rooms), .d X, .d (.int hour)] S = some (.d (.list ((Lo rooms es hour).map encL)), S) := by
  unfold b__law_loud
  refine s_run (s_rt (s_ret ?_))
  refine q_filt encL encL (fun l => (es.filter fun e => decide (e.h = hour)).all fun e => T e l) (setsL (rI rooms)) ?_ fun l hl => ?_
  · have hn := rng_nat rooms (by omega)
    have := r_call0 (Φ := F (k + 1)) (Γ := []) (env := [some (.d (.int rooms)), some (.d X), some (.d (.int hour)), none, none]) (S := S) (S1 := S) (f := 10) (es := .cons (.lrg (.var 0)) .nil) (as := [.d (.list ((rI rooms).map .int))]) (by simp [ev_lrg, hn, rI_int]) (g10 k) (m_law_sets (F k) (rI rooms) S (by simpa [rI] using hr))
    simp [this]
  · rw [← loud_test]
    refine r_cfi (v := .d (.bool (!(es.any fun e => decide (e.h = hour) && !T e l)))) (by simp; rfl) ?_ rfl fun _ => ?_
    · rw [ev_not, r_blt (q_map E.enc (fun e => .bool (decide (e.h = hour) && !T e l)) es (by simp [hX.seq]) fun e he => ?_) (any_ok _ _)]
      · simp
      · refine r_cf (by simp; rfl) ?_
        have hc := r_call0 (Φ := F (k + 1)) (Γ := []) (env := [some (.d (.int rooms)), some (.d X), some (.d (.int hour)), some (.d (encL l)), some (.d e.enc)]) (S := S) (S1 := S) (f := 12) (es := .cons (.var 4) (.cons (.var 3) .nil)) (as := [.d e.enc, .d (encL l)]) (by simp) (g12 k) (m_law_true (F k) e l S (hes e he))
        have hi : ixD e.enc (.int 1) = some (.int e.h) := by simp [E.enc, ixD]
        by_cases hh : e.h = hour <;> simp [hc, hi, hh]
    · simp
theorem eqvD_nil (L : List (List Int)) : eqvD (.list (L.map encL)) (.list []) = some (decide (L = [])) := by
  have h1 : ∀ L : List (List Int), PyData.canLayAll0 (L.map encL) = true := fun L => by
    induction L with
    | nil => rfl
    | cons x L ih =>
      rw [List.map_cons, PyData.canLayAll0, ih, Bool.and_true]
      unfold encL
      rw [PyData.canLay0]
      induction x with
      | nil => rfl
      | cons y x ih => rw [List.map_cons, PyData.canLayAll0, ih]; rfl
  have h2 : ∀ L : List (List Int), PyData.depthAll (L.map encL) ≤ 1 := fun L => by
    induction L with
    | nil => simp [PyData.depthAll]
    | cons x L ih =>
      rw [List.map_cons, PyData.depthAll]
      have : (encL x).depth = 1 := by
        unfold encL
        rw [PyData.depth, PySem.W.depth_ints]
      omega
  unfold eqvD
  have ok : okEq (.list (L.map encL)) (.list []) = true := by
    unfold okEq SeqAt.shaped
    rw [PyData.canLay0, h1, PyData.depth]
    have := h2 L
    simp [PyData.canLay0, PyData.canLayAll0, PyData.depth, PyData.depthAll]
    omega
  rw [if_pos ok]
  congr 1
  cases L <;> simp [PyData.eqv, PyData.eqvAll]
def Can (rooms hours : Nat) (es : List E) : Bool := (List.range hours).all fun (h : Nat) => decide (Lo rooms es (h : Int) ≠ [])
theorem m_can_all (k : Nat) (rooms hours : Nat) (es : List E) (X : PyData) (S : Sto) (hr : rooms ≤ 20) (hh : hours ≤ 20) (hes : ∀ e ∈ es, e.ok) (hX : Es X es) :
    run (F (k + 2)) [] 4 b_can_all [.d (.int rooms), .d (.int hours), .d X] S = some (.d (.bool (Can rooms hours es)), S) := by
  unfold b_can_all
  have hn := rng_nat hours (by omega)
  refine s_run (s_rt (s_ret (r_blt (q_map (fun (h : Nat) => PyData.int (h : Int)) (fun (h : Nat) => .bool (decide (Lo rooms es (h : Int) ≠ []))) (List.range hours) (by simp [hn]) fun h _ => ?_) (all_ok _ _))))
  refine r_cf (by simp; rfl) ?_
  have hc := r_call0 (Φ := F (k + 2)) (Γ := []) (env := [some (.d (.int rooms)), some (.d (.int hours)), some (.d X), some (.d (.int (h : Int)))]) (S := S) (S1 := S) (f := 2) (es := .cons (.var 0) (.cons (.var 2) (.cons (.var 3) .nil))) (as := [.d (.int rooms), .d X, .d (.int (h : Int))]) (by simp) (g2 (k + 1)) (m_loud_sets k rooms es X h S hr hes hX)
  simp [hc, eqvD_nil]
theorem m_least_noise (k : Nat) (rooms hours : Nat) (es : List E) (X : PyData) (S : Sto) (hr : rooms ≤ 20) (hh : hours ≤ 20) (hes : ∀ e ∈ es, e.ok) (hX : Es X es) (hcan : Can rooms hours es = true) :
    ∃ xs, run (F (k + 2)) [] 6 b_least_noise [.d (.int rooms), .d (.int hours), .d X] S = some (.d (.tuple xs), S) := by
  unfold b_least_noise
  have hn := rng_nat hours (by omega)
  have lp := forL_inv (fun (h : Nat) => PyData.int (h : Int)) (fF (F (k + 2)) [] (.nm 4) (.cons (.asg (.nm 5) (.call 2 (.cons (.var 0) (.cons (.var 2) (.cons (.var 4) .nil))))) (.cons (.ifs (.not (.var 5)) (.cons (.ret (.cst .none)) .nil) .nil) (.cons (.asg (.nm 3) (.bin .Add (.var 3) (.tup (.cons (.ix (.var 5) (.cst (.int 0))) .nil)))) .nil))) [4, 5])
    (fun (st : List PyData) => [some (.d (.int rooms)), some (.d (.int hours)), some (.d X), some (.d (.tuple st)), none, none]) S (fun st h => st ++ [((Lo rooms es (h : Int)).map encL).headD .none]) (fun r st => (∀ h ∈ r, Lo rooms es (h : Int) ≠ []) ∧ st.length + r.length ≤ 1000) (fun h r st ⟨i1, i2⟩ => ?_) (List.range hours) [] ⟨?_, by simp; omega⟩
  · exact ⟨_, s_run (s_nx _ (r_asg (v := .d (.tuple [])) (S1 := S) (by simp)) (s_nx _ (r_for (xs := (List.range hours).map fun (h : Nat) => PyData.int (h : Int)) (S1 := S) (by simp [hn]) lp) (s_rt (s_ret (by simp; rfl)))))⟩
  · rw [List.length_cons] at i2
    refine ⟨?_, fun h' hm => i1 h' (by simp [hm]), by rw [List.length_append]; simp; omega⟩
    have hc := r_call0 (Φ := F (k + 2)) (Γ := []) (env := [some (.d (.int rooms)), some (.d (.int hours)), some (.d X), some (.d (.tuple st)), some (.d (.int (h : Int))), none]) (S := S) (S1 := S) (f := 2) (es := .cons (.var 0) (.cons (.var 2) (.cons (.var 4) .nil))) (as := [.d (.int rooms), .d X, .d (.int (h : Int))]) (by simp) (g2 (k + 1)) (m_loud_sets k rooms es X h S hr hes hX)
    have ne := i1 h (by simp)
    cases hL : Lo rooms es (h : Int) with
    | nil => exact absurd hL ne
    | cons l ls =>
      rw [hL] at hc
      have ba := bin_tup st [encL l] (by simp; omega)
      refine (f_nx (e1 := [some (.d (.int rooms)), some (.d (.int hours)), some (.d X), some (.d (.tuple st)), some (.d (.int (h : Int))), none]) (by simp) (r_nx (r_asg hc) (r_nx (n_ifF (S1 := S) (by simp)) (r_nx (r_asg (v := .d (.tuple (st ++ [encL l]))) (S1 := S) (by simp [ixD, ba])) r_nil)))).trans ?_
      simp
  · intro h hm
    unfold Can at hcan
    rw [List.all_eq_true] at hcan
    simpa using hcan h hm
/-! places -/
def e0 : E := ⟨"", 0, 0, none⟩
def ge (es : List E) (i : Int) : E := es.getD i.toNat e0
def gi (l : List Int) (i : Int) : Int := l.getD i.toNat 0
theorem mem_rI {n : Nat} {i : Int} : i ∈ rI n ↔ 0 ≤ i ∧ i < n := by
  unfold rI
  simp only [List.mem_map, List.mem_range]
  constructor
  · rintro ⟨j, hj, rfl⟩
    omega
  · rintro ⟨h0, h1⟩
    exact ⟨i.toNat, by omega, by omega⟩
theorem at_map {α : Type} (enc : α → PyData) (l : List α) (d : α) (i : Int) (h0 : 0 ≤ i) (h1 : i < l.length) : atI (l.map enc) i = some (enc (l.getD i.toNat d)) := by
  obtain ⟨j, rfl⟩ : ∃ j : Nat, i = (j : Int) := ⟨i.toNat, by omega⟩
  have h2 : j < l.length := by omega
  rw [atI_nat _ _ (by simpa using h2)]
  simp [h2]
theorem Es.ix {X : PyData} {es : List E} (h : Es X es) (i : Int) (h0 : 0 ≤ i) (h1 : i < es.length) : ixD X (.int i) = some (ge es i).enc := by
  have := at_map E.enc es e0 i h0 h1
  rcases h with rfl | rfl <;> exact this
theorem ge_ok {es : List E} (hes : ∀ e ∈ es, e.ok) {i : Int} (h0 : 0 ≤ i) (h1 : i < es.length) : (ge es i).ok := by
  have h2 : i.toNat < es.length := by omega
  have : ge es i = es[i.toNat] := by
    unfold ge
    simp [h2]
  rw [this]
  exact hes _ (List.getElem_mem h2)
theorem Es.enm {es : List E} : enmD (es.map E.enc) = (rI es.length).map fun i => .tuple [.int i, (ge es i).enc] := by
  apply List.ext_getElem?
  intro i
  by_cases h : i < es.length
  · rw [enmD_get _ i (by simpa using h)]
    unfold rI ge
    simp [h]
  · rw [List.getElem?_eq_none (by rw [enmD_len]; simp; omega), List.getElem?_eq_none (by simp [rI]; omega)]
theorem Es.evm {X : PyData} {es : List E} (h : Es X es) {Φ : List Fs} {Γ : List PyData} {e : Ex} {env : En} {S : Sto} (he : ev Φ Γ e env S = some (.d X, S)) : evI Φ Γ (.enm e) env S = some ((rI es.length).map fun i => .tuple [.int i, (ge es i).enc], S) := by
  rw [x_enm, he, ← Es.enm]
  rcases h with rfl | rfl <;> rfl
theorem Es.len {X : PyData} {es : List E} (h : Es X es) : lenD X = some (es.length : Int) := by
  rcases h with rfl | rfl <;> simp
/-- what is left without these -/
def Left (es : List E) (s : List Int) : List E := ((rI es.length).filter fun i => decide (i ∉ s)).map (ge es)
def Fw (rooms hours : Nat) (es : List E) : Option (List Int) := (setsL (rI es.length)).find? fun s => Can rooms hours (Left es s)
theorem left_ok {es : List E} (hes : ∀ e ∈ es, e.ok) (s : List Int) : ∀ e ∈ Left es s, e.ok := fun e he => by
  unfold Left at he
  obtain ⟨i, hi, rfl⟩ := List.mem_map.mp he
  have := mem_rI.mp (List.mem_filter.mp hi).1
  exact ge_ok hes this.1 this.2
theorem m_fewest (k : Nat) (rooms hours : Nat) (es : List E) (X : PyData) (S : Sto) (hr : rooms ≤ 20) (hh : hours ≤ 20) (hl : es.length ≤ 20) (hes : ∀ e ∈ es, e.ok) (hX : Es X es) (s : List Int) (hs : Fw rooms hours es = some s) :
    run (F (k + 3)) [] 6 b_fewest_struck [.d (.int rooms), .d (.int hours), .d X] S = some (.d (encL s), S) := by
  unfold b_fewest_struck
  have h1 := r_call0 (Φ := F (k + 3)) (Γ := []) (env := [some (.d (.int rooms)), some (.d (.int hours)), some (.d X), none, none, none]) (S := S) (S1 := S) (f := 1) (es := .cons (.blt .len (.cons (.var 2) .nil)) .nil) (as := [.d (.int es.length)]) (by simp [bltD, hX.len]) (g1 (k + 2)) (m_sets_of (F (k + 2)) es.length S hl)
  have lp := forL_find encL (fF (F (k + 3)) [] (.nm 3) (.cons (.ifs (.call 4 (.cons (.var 0) (.cons (.var 1) (.cons (.comp (.tp (.cons (.nm 4) (.cons (.nm 5) .nil))) (.enm (.var 2)) (.cons (.cmp .NotIn (.var 4) (.var 3)) .nil) (.var 5)) .nil)))) (.cons (.ret (.var 3)) .nil) .nil) .nil) [3])
    [some (.d (.int rooms)), some (.d (.int hours)), some (.d X), none, none, none] S (fun s => if Can rooms hours (Left es s) = true then some (.d (encL s)) else none) (setsL (rI es.length)) fun s _ => ?_
  · have hf : (setsL (rI es.length)).findSome? (fun s => if Can rooms hours (Left es s) = true then some (A.d (encL s)) else none) = some (.d (encL s)) := by
      unfold Fw at hs
      rw [List.findSome?_eq_some_iff]
      rw [List.find?_eq_some_iff_append] at hs
      obtain ⟨h2, as, bs, h3, h4⟩ := hs
      exact ⟨as, s, bs, h3, by simp [h2], fun a ha => by have := h4 a ha; simp at this; simp [this]⟩
    rw [hf] at lp
    obtain ⟨e2, lp⟩ := lp
    exact s_run (s_rt (s_for (xs := (setsL (rI es.length)).map encL) (S1 := S) (by simp [h1]) lp))
  · have hc : ev (F (k + 3)) [] (.comp (.tp (.cons (.nm 4) (.cons (.nm 5) .nil))) (.enm (.var 2)) (.cons (.cmp .NotIn (.var 4) (.var 3)) .nil) (.var 5)) [some (.d (.int rooms)), some (.d (.int hours)), some (.d X), some (.d (encL s)), none, none] S = some (.d (.list ((Left es s).map E.enc)), S) := by
      have := q_filt (Φ := F (k + 3)) (Γ := []) (S := S) (env := [some (.d (.int rooms)), some (.d (.int hours)), some (.d X), some (.d (encL s)), none, none]) (tg := .tp (.cons (.nm 4) (.cons (.nm 5) .nil))) (it := .enm (.var 2)) (t := .cmp .NotIn (.var 4) (.var 3)) (e := .var 5) (fun i => PyData.tuple [.int i, (ge es i).enc]) (fun i => (ge es i).enc) (fun i => decide (i ∉ s)) (rI es.length) (hX.evm (by simp)) fun i _ => ?_
      · rw [this]
        unfold Left
        rw [List.map_map]
        rfl
      · refine r_cfi (v := .d (.bool (decide (i ∉ s)))) (by simp; rfl) ?_ rfl fun _ => ?_
        · simp
        · simp
    have h2 := r_call0 (Φ := F (k + 3)) (Γ := []) (env := [some (.d (.int rooms)), some (.d (.int hours)), some (.d X), some (.d (encL s)), none, none]) (S := S) (S1 := S) (f := 4) (es := .cons (.var 0) (.cons (.var 1) (.cons (.comp (.tp (.cons (.nm 4) (.cons (.nm 5) .nil))) (.enm (.var 2)) (.cons (.cmp .NotIn (.var 4) (.var 3)) .nil) (.var 5)) .nil))) (as := [.d (.int rooms), .d (.int hours), .d (.list ((Left es s).map E.enc))]) (by simp [hc]) (g4 (k + 2)) (m_can_all k rooms hours (Left es s) _ S hr hh (left_ok hes s) (.inl rfl))
    by_cases hcan : Can rooms hours (Left es s) = true
    · rw [hcan] at h2
      rw [if_pos hcan]
      exact f_rt (e1 := [some (.d (.int rooms)), some (.d (.int hours)), some (.d X), some (.d (encL s)), none, none]) (by simp) (s_rt (s_ifT h2 (s_rt (s_ret (by simp)))))
    · have hcan' : Can rooms hours (Left es s) = false := by simpa using hcan
      rw [hcan'] at h2
      rw [if_neg hcan]
      refine (f_nx (e1 := [some (.d (.int rooms)), some (.d (.int hours)), some (.d X), some (.d (encL s)), none, none]) (by simp) (r_nx (n_ifF h2) r_nil)).trans ?_
      simp
def Own (es : List E) (h : Int) : List Int := (rI es.length).filter fun i => decide ((ge es i).h = h)
def Fq (rooms hours : Nat) (es : List E) : Option (Int × List Int) := (List.range hours).findSome? fun (h : Nat) => if Lo rooms es (h : Int) = [] then (setsL (rI (Own es h).length)).findSome? fun s => if Lo rooms ((s.map (gi (Own es h))).map (ge es)) (h : Int) = [] then some ((h : Int), s.map (gi (Own es h))) else none else none
def encQ : Option (Int × List Int) → PyData
  | none => .none
  | some (h, s) => .tuple [.int h, encL s]
theorem own_mem {es : List E} {h i : Int} (hi : i ∈ Own es h) : 0 ≤ i ∧ i < es.length := mem_rI.mp (List.mem_filter.mp hi).1
theorem gi_mem {l : List Int} {i : Int} (h0 : 0 ≤ i) (h1 : i < l.length) : gi l i ∈ l := by
  have h2 : i.toNat < l.length := by omega
  have : gi l i = l[i.toNat] := by
    unfold gi
    simp [h2]
  rw [this]
  exact List.getElem_mem h2
theorem m_quarrel (k : Nat) (rooms hours : Nat) (es : List E) (X : PyData) (S : Sto) (hr : rooms ≤ 20) (hh : hours ≤ 20) (hl : es.length ≤ 20) (hes : ∀ e ∈ es, e.ok) (hX : Es X es) :
    run (F (k + 3)) [] 9 b_first_quarrel [.d (.int rooms), .d (.int hours), .d X] S = some (.d (encQ (Fq rooms hours es)), S) := by
  unfold b_first_quarrel
  have hn := rng_nat hours (by omega)
  have lp := forL_find (fun (h : Nat) => PyData.int (h : Int)) (fF (F (k + 3)) [] (.nm 3) (.cons (.ifs (.not (.call 2 (.cons (.var 0) (.cons (.var 2) (.cons (.var 3) .nil))))) (.cons (.asg (.nm 4) (.comp (.tp (.cons (.nm 6) (.cons (.nm 7) .nil))) (.enm (.var 2)) (.cons (.cmp .Eq (.ix (.var 7) (.cst (.int 1))) (.var 3)) .nil) (.var 6))) (.cons (.for_ (.nm 5) (.seq (.call 1 (.cons (.blt .len (.cons (.var 4) .nil)) .nil))) (.cons (.ifs (.not (.call 2 (.cons (.var 0) (.cons (.comp (.nm 8) (.seq (.var 5)) .nil (.ix (.var 2) (.ix (.var 4) (.var 8)))) (.cons (.var 3) .nil))))) (.cons (.ret (.tup (.cons (.var 3) (.cons (.blt .tuple (.cons (.comp (.nm 8) (.seq (.var 5)) .nil (.ix (.var 4) (.var 8))) .nil)) .nil)))) .nil) .nil) .nil) [5]) .nil)) .nil) .nil) [3, 4, 5])
    [some (.d (.int rooms)), some (.d (.int hours)), some (.d X), none, none, none, none, none, none] S (fun (h : Nat) => if Lo rooms es (h : Int) = [] then (setsL (rI (Own es h).length)).findSome? fun s => if Lo rooms ((s.map (gi (Own es h))).map (ge es)) (h : Int) = [] then some (A.d (encQ (some ((h : Int), s.map (gi (Own es h)))))) else none else none) (List.range hours) fun h _ => ?_
  · have hf : ((List.range hours).findSome? (fun (h : Nat) => if Lo rooms es (h : Int) = [] then (setsL (rI (Own es h).length)).findSome? fun s => if Lo rooms ((s.map (gi (Own es h))).map (ge es)) (h : Int) = [] then some (A.d (encQ (some ((h : Int), s.map (gi (Own es h)))))) else none else none)) = (Fq rooms hours es).map fun p => A.d (encQ (some p)) := by
      unfold Fq
      rw [List.map_findSome?]
      refine congrArg (fun f => List.findSome? f (List.range hours)) (funext fun h => ?_)
      by_cases hL : Lo rooms es (h : Int) = []
      · simp only [Function.comp, if_pos hL]
        rw [List.map_findSome?]
        refine congrArg (fun f => List.findSome? f (setsL (rI (Own es h).length))) (funext fun s => ?_)
        simp only [Function.comp]
        split <;> rfl
      · simp only [Function.comp, if_neg hL]
        rfl
    rw [hf] at lp
    cases hq : Fq rooms hours es with
    | none =>
      rw [hq] at lp
      exact s_run (s_nx _ (r_for (xs := (List.range hours).map fun (h : Nat) => PyData.int (h : Int)) (S1 := S) (by simp [hn]) lp) (s_rt (s_ret (by simp [encQ]))))
    | some p =>
      rw [hq] at lp
      obtain ⟨e2, lp⟩ := lp
      exact s_run (s_rt (s_for (xs := (List.range hours).map fun (h : Nat) => PyData.int (h : Int)) (S1 := S) (by simp [hn]) lp))
  · have hc := r_call0 (Φ := F (k + 3)) (Γ := []) (env := [some (.d (.int rooms)), some (.d (.int hours)), some (.d X), some (.d (.int (h : Int))), none, none, none, none, none]) (S := S) (S1 := S) (f := 2) (es := .cons (.var 0) (.cons (.var 2) (.cons (.var 3) .nil))) (as := [.d (.int rooms), .d X, .d (.int (h : Int))]) (by simp) (g2 (k + 2)) (m_loud_sets (k + 1) rooms es X h S hr hes hX)
    by_cases hL : Lo rooms es (h : Int) = []
    · rw [hL] at hc
      rw [if_pos hL]
      generalize hO : Own es (h : Int) = O
      have ho : ev (F (k + 3)) [] (.comp (.tp (.cons (.nm 6) (.cons (.nm 7) .nil))) (.enm (.var 2)) (.cons (.cmp .Eq (.ix (.var 7) (.cst (.int 1))) (.var 3)) .nil) (.var 6)) [some (.d (.int rooms)), some (.d (.int hours)), some (.d X), some (.d (.int (h : Int))), none, none, none, none, none] S = some (.d (.list (O.map .int)), S) := by
        have := q_filt (Φ := F (k + 3)) (Γ := []) (S := S) (env := [some (.d (.int rooms)), some (.d (.int hours)), some (.d X), some (.d (.int (h : Int))), none, none, none, none, none]) (tg := .tp (.cons (.nm 6) (.cons (.nm 7) .nil))) (it := .enm (.var 2)) (t := .cmp .Eq (.ix (.var 7) (.cst (.int 1))) (.var 3)) (e := .var 6) (fun i => PyData.tuple [.int i, (ge es i).enc]) (fun i => .int i) (fun i => decide ((ge es i).h = h)) (rI es.length) (hX.evm (by simp)) fun i _ => ?_
        · rw [this, ← hO]
          rfl
        · refine r_cfi (v := .d (.bool (decide ((ge es i).h = h)))) (by simp; rfl) ?_ rfl fun _ => ?_
          · simp [E.enc, ixD]
          · simp
      have hOm : ∀ i ∈ O, 0 ≤ i ∧ i < es.length := fun i hi => own_mem (h := h) (hO ▸ hi)
      have hOl : O.length ≤ 20 := by
        rw [← hO]
        unfold Own
        refine Nat.le_trans (List.length_filter_le _ _) ?_
        simpa [rI] using hl
      have h1 := r_call0 (Φ := F (k + 3)) (Γ := []) (env := [some (.d (.int rooms)), some (.d (.int hours)), some (.d X), some (.d (.int (h : Int))), some (.d (.list (O.map .int))), none, none, none, none]) (S := S) (S1 := S) (f := 1) (es := .cons (.blt .len (.cons (.var 4) .nil)) .nil) (as := [.d (.int O.length)]) (by simp [bltD]) (g1 (k + 2)) (m_sets_of (F (k + 2)) O.length S hOl)
      have lp2 := forL_find encL (fF (F (k + 3)) [] (.nm 5) (.cons (.ifs (.not (.call 2 (.cons (.var 0) (.cons (.comp (.nm 8) (.seq (.var 5)) .nil (.ix (.var 2) (.ix (.var 4) (.var 8)))) (.cons (.var 3) .nil))))) (.cons (.ret (.tup (.cons (.var 3) (.cons (.blt .tuple (.cons (.comp (.nm 8) (.seq (.var 5)) .nil (.ix (.var 4) (.var 8))) .nil)) .nil)))) .nil) .nil) .nil) [5])
        [some (.d (.int rooms)), some (.d (.int hours)), some (.d X), some (.d (.int (h : Int))), some (.d (.list (O.map .int))), none, none, none, none] S (fun s => if Lo rooms ((s.map (gi O)).map (ge es)) (h : Int) = [] then some (A.d (encQ (some ((h : Int), s.map (gi O))))) else none) (setsL (rI O.length)) fun s hs => ?_
      · cases hq : (setsL (rI O.length)).findSome? (fun s => if Lo rooms ((s.map (gi O)).map (ge es)) (h : Int) = [] then some (A.d (encQ (some ((h : Int), s.map (gi O))))) else none) with
        | none =>
          rw [hq] at lp2
          simp only at lp2 ⊢
          refine (f_nx (e1 := [some (.d (.int rooms)), some (.d (.int hours)), some (.d X), some (.d (.int (h : Int))), none, none, none, none, none]) (by simp) (r_nx (r_ifT (S1 := S) (by simp [hc]) (r_nx (r_asg ho) (r_nx (r_for (xs := (setsL (rI O.length)).map encL) (S1 := S) (by simp [h1]) lp2) r_nil))) r_nil)).trans ?_
          simp
        | some a =>
          rw [hq] at lp2
          simp only at lp2 ⊢
          obtain ⟨e3, lp2⟩ := lp2
          exact f_rt (e1 := [some (.d (.int rooms)), some (.d (.int hours)), some (.d X), some (.d (.int (h : Int))), none, none, none, none, none]) (by simp) (s_rt (s_ifT (S1 := S) (by simp [hc]) (s_nx _ (r_asg ho) (s_rt (s_for (xs := (setsL (rI O.length)).map encL) (S1 := S) (by simp [h1]) lp2)))))
      · have hp : ∀ p ∈ s, 0 ≤ p ∧ p < O.length := fun p hp => mem_rI.mp (mem_sub hs p hp)
        have c1 : ev (F (k + 3)) [] (.comp (.nm 8) (.seq (.var 5)) .nil (.ix (.var 2) (.ix (.var 4) (.var 8)))) [some (.d (.int rooms)), some (.d (.int hours)), some (.d X), some (.d (.int (h : Int))), some (.d (.list (O.map .int))), some (.d (encL s)), none, none, none] S = some (.d (.list (((s.map (gi O)).map (ge es)).map E.enc)), S) := by
          rw [List.map_map, List.map_map]
          refine q_map PyData.int _ s (by simp [encL]) fun p hp' => ?_
          obtain ⟨p0, p1⟩ := hp p hp'
          have a1 := at_map PyData.int O 0 p p0 p1
          obtain ⟨o0, o1⟩ := hOm _ (gi_mem p0 p1)
          have a2 := hX.ix _ o0 o1
          have a3 : ixD (.list (O.map .int)) (.int p) = some (.int (gi O p)) := a1
          refine r_cf (by simp; rfl) ?_
          simp [a3, a2]
        have c2 : ev (F (k + 3)) [] (.comp (.nm 8) (.seq (.var 5)) .nil (.ix (.var 4) (.var 8))) [some (.d (.int rooms)), some (.d (.int hours)), some (.d X), some (.d (.int (h : Int))), some (.d (.list (O.map .int))), some (.d (encL s)), none, none, none] S = some (.d (.list ((s.map (gi O)).map .int)), S) := by
          rw [List.map_map]
          refine q_map PyData.int _ s (by simp [encL]) fun p hp' => ?_
          obtain ⟨p0, p1⟩ := hp p hp'
          have a1 := at_map PyData.int O 0 p p0 p1
          have a3 : ixD (.list (O.map .int)) (.int p) = some (.int (gi O p)) := a1
          refine r_cf (by simp; rfl) ?_
          simp [a3]
        have h2 := r_call0 (Φ := F (k + 3)) (Γ := []) (env := [some (.d (.int rooms)), some (.d (.int hours)), some (.d X), some (.d (.int (h : Int))), some (.d (.list (O.map .int))), some (.d (encL s)), none, none, none]) (S := S) (S1 := S) (f := 2) (es := .cons (.var 0) (.cons (.comp (.nm 8) (.seq (.var 5)) .nil (.ix (.var 2) (.ix (.var 4) (.var 8)))) (.cons (.var 3) .nil))) (as := [.d (.int rooms), .d (.list (((s.map (gi O)).map (ge es)).map E.enc)), .d (.int (h : Int))]) (by simp [c1]) (g2 (k + 2)) (m_loud_sets (k + 1) rooms ((s.map (gi O)).map (ge es)) _ h S hr (fun e he => by
            obtain ⟨i, hi, rfl⟩ := List.mem_map.mp he
            obtain ⟨p, hp', rfl⟩ := List.mem_map.mp hi
            obtain ⟨p0, p1⟩ := hp p hp'
            obtain ⟨o0, o1⟩ := hOm _ (gi_mem p0 p1)
            exact ge_ok hes o0 o1) (.inl rfl))
        by_cases hZ : Lo rooms ((s.map (gi O)).map (ge es)) (h : Int) = []
        · rw [hZ] at h2
          rw [if_pos hZ]
          refine f_rt (e1 := [some (.d (.int rooms)), some (.d (.int hours)), some (.d X), some (.d (.int (h : Int))), some (.d (.list (O.map .int))), some (.d (encL s)), none, none, none]) (by simp) (s_rt (s_ifT (S1 := S) (by rw [ev_not, h2]; simp) (s_rt (s_ret ?_))))
          simp [c2, bltD]
          simp [encQ, encL]
        · rw [if_neg hZ]
          refine (f_nx (e1 := [some (.d (.int rooms)), some (.d (.int hours)), some (.d X), some (.d (.int (h : Int))), some (.d (.list (O.map .int))), some (.d (encL s)), none, none, none]) (by simp) (r_nx (n_ifF (S1 := S) (by
            rw [ev_not, h2]
            generalize Lo rooms ((s.map (gi O)).map (ge es)) (h : Int) = Z at hZ
            simp [hZ])) r_nil)).trans ?_
          simp
    · rw [if_neg hL]
      refine (f_nx (e1 := [some (.d (.int rooms)), some (.d (.int hours)), some (.d X), some (.d (.int (h : Int))), none, none, none, none, none]) (by simp) (r_nx (n_ifF (S1 := S) (by rw [ev_not, hc]; simp [hL])) r_nil)).trans ?_
      simp
end KL

namespace KL
open PySem PySem.Spec PyProof.Rows L2 PV
theorem forL_ex {α σ : Type} (enc : α → PyData) (f : PyData → En → Sto → Option (Fl × En × Sto)) (E : σ → En) (Sf : σ → Sto) (I : List α → σ → Prop) (hs : ∀ x xs st, I (x :: xs) st → ∃ st', f (enc x) (E st) (Sf st) = some (.nx, E st', Sf st') ∧ I xs st') : ∀ (xs : List α) (st : σ), I xs st → ∃ st', I [] st' ∧ forL f (xs.map enc) (E st) (Sf st) = some (.nx, E st', Sf st')
  | [], st, h => ⟨st, h, rfl⟩
  | x :: xs, st, h => by
    obtain ⟨st1, h1, h2⟩ := hs x xs st h
    obtain ⟨st2, h3, h4⟩ := forL_ex enc f E Sf I hs xs st1 h2
    exact ⟨st2, h3, by rw [List.map_cons, forL, h1]; exact h4⟩
theorem nx (k : Nat) {ns : List Int} {o : Ob} {many : Int} (hn : ns.length ≤ 63) (ho : isDr ns o) (h0 : 0 < many) (h1 : many < 1073741824) : ∃ r o', 0 ≤ r ∧ r < many ∧ isDr ns o' ∧ ∀ env es, evs (F (k + 1)) [] es env [o] = some ([.obj 0, .d (.int many)], [o]) → ev (F (k + 1)) [] (.call 8 es) env [o] = some (.d (.int r), [o']) := by
  obtain ⟨r, o', a1, a2, a3, a4⟩ := next_ok (F k) [] (S := [o]) (k := 0) hn rfl ho h0 h1
  refine ⟨r, o', a1, a2, a3, fun env es he => ?_⟩
  rw [r_call he (g8 k) a4, gc_len (by simp)]
  rfl
def wl : List PyData := [.str "noise", .str "noise", .str "quiet", .str "loud", .str "same"]
theorem words {r : Int} (h0 : 0 ≤ r) (h1 : r < 5) : ∃ w, atI wl r = some (.str w) ∧ (w = "loud" ∨ w = "noise" ∨ w = "quiet" ∨ (w = "same" ∧ r = 4)) := by
  have : r = 0 ∨ r = 1 ∨ r = 2 ∨ r = 3 ∨ r = 4 := by omega
  rcases this with rfl | rfl | rfl | rfl | rfl
  · exact ⟨"noise", rfl, .inr (.inl rfl)⟩
  · exact ⟨"noise", rfl, .inr (.inl rfl)⟩
  · exact ⟨"quiet", rfl, .inr (.inr (.inl rfl))⟩
  · exact ⟨"loud", rfl, .inl rfl⟩
  · exact ⟨"same", rfl, .inr (.inr (.inr ⟨rfl, rfl⟩))⟩
theorem nsl : ¬ (("loud" : Str) = "same") := by decide +kernel
theorem nsn : ¬ (("noise" : Str) = "same") := by decide +kernel
theorem nsq : ¬ (("quiet" : Str) = "same") := by decide +kernel
theorem ent_step (k : Nat) {ns : List Int} {o : Ob} (hn : ns.length ≤ 63) (ho : isDr ns o) (rooms hours : Nat) (r0 : 1 ≤ rooms) (r1 : rooms ≤ 3) (q0 : 1 ≤ hours) (q1 : hours ≤ 2) (es : List E) (hl : es.length ≤ 5) (j : Int) :
    ∃ e o', isDr ns o' ∧ E.ok e ∧ fF (F (k + 1)) [] (.nm 5) (.cons (.par (.cons (.nm 6) (.cons (.nm 7) .nil)) (.cons (.ix (.lst (.cons (.cst (.str "noise")) (.cons (.cst (.str "noise")) (.cons (.cst (.str "quiet")) (.cons (.cst (.str "loud")) (.cons (.cst (.str "same")) .nil)))))) (.call 8 (.cons (.var 0) (.cons (.ite (.cmp .Gt (.var 1) (.cst (.int 1))) (.cst (.int 5)) (.cst (.int 4))) .nil)))) (.cons (.call 8 (.cons (.var 0) (.cons (.var 1) .nil))) .nil))) (.cons (.asg (.nm 8) (.comp (.nm 9) (.rng (.var 1)) (.cons (.cmp .NotEq (.var 9) (.var 7)) .nil) (.var 9))) (.cons (.asg (.nm 4) (.bin .Add (.var 4) (.tup (.cons (.tup (.cons (.var 6) (.cons (.call 8 (.cons (.var 0) (.cons (.var 2) .nil))) (.cons (.var 7) (.cons (.ite (.cmp .Eq (.var 6) (.cst (.str "same"))) (.ix (.var 8) (.call 8 (.cons (.var 0) (.cons (.blt .len (.cons (.var 8) .nil)) .nil)))) (.cst .none)) .nil))))) .nil)))) .nil))) [5, 6, 7, 8]
      (.int j) [some (.obj 0), some (.d (.int rooms)), some (.d (.int hours)), some (.d (.int 5)), some (.d (.tuple (es.map E.enc))), none, none, none, none, none] [o] = some (.nx, [some (.obj 0), some (.d (.int rooms)), some (.d (.int hours)), some (.d (.int 5)), some (.d (.tuple ((es ++ [e]).map E.enc))), none, none, none, none, none], [o']) := by
  have hm : ∃ m : Int, (m = 4 ∨ (m = 5 ∧ 1 < rooms)) ∧ ∀ (env : En) (S : Sto), env[1]? = some (some (.d (.int rooms))) → ev (F (k + 1)) [] (.ite (.cmp .Gt (.var 1) (.cst (.int 1))) (.cst (.int 5)) (.cst (.int 4))) env S = some (.d (.int m), S) := by
    by_cases h : 1 < rooms
    · have h' : (1 : Int) < rooms := by omega
      exact ⟨5, .inr ⟨rfl, h⟩, fun env S he => by simp [he, h, h']⟩
    · have h' : ¬ (1 : Int) < rooms := by omega
      exact ⟨4, .inl rfl, fun env S he => by simp [he, h, h']⟩
  obtain ⟨m, hm, hme⟩ := hm
  obtain ⟨a, o1, a0, a1, i1, c1⟩ := nx k hn ho (many := m) (by omega) (by omega)
  obtain ⟨b, o2, b0, b1, i2, c2⟩ := nx k hn i1 (many := rooms) (by omega) (by omega)
  obtain ⟨c, o3, c0, c1', i3, c3⟩ := nx k hn i2 (many := hours) (by omega) (by omega)
  obtain ⟨w, hw, hww⟩ := words a0 (r := a) (by omega)
  generalize hO : ((List.range rooms).filter fun (j : Nat) => decide ((j : Int) ≠ b)) = O
  have hrg := rng_nat rooms (by omega)
  have ba : ∀ e : E, binD .Add (.tuple (es.map E.enc)) (.tuple [e.enc]) = some (.tuple (es.map E.enc ++ [e.enc])) := fun e => bin_tup _ _ (by simp; omega)
  have s1 : ex (F (k + 1)) [] (.par (.cons (.nm 6) (.cons (.nm 7) .nil)) (.cons (.ix (.lst (.cons (.cst (.str "noise")) (.cons (.cst (.str "noise")) (.cons (.cst (.str "quiet")) (.cons (.cst (.str "loud")) (.cons (.cst (.str "same")) .nil)))))) (.call 8 (.cons (.var 0) (.cons (.ite (.cmp .Gt (.var 1) (.cst (.int 1))) (.cst (.int 5)) (.cst (.int 4))) .nil)))) (.cons (.call 8 (.cons (.var 0) (.cons (.var 1) .nil))) .nil)))
      [some (.obj 0), some (.d (.int rooms)), some (.d (.int hours)), some (.d (.int 5)), some (.d (.tuple (es.map E.enc))), some (.d (.int j)), none, none, none, none] [o] = some (.nx, [some (.obj 0), some (.d (.int rooms)), some (.d (.int hours)), some (.d (.int 5)), some (.d (.tuple (es.map E.enc))), some (.d (.int j)), some (.d (.str w)), some (.d (.int b)), none, none], [o2]) := by
    refine r_par (vs := [.d (.str w), .d (.int b)]) (S1 := [o2]) ?_ (by simp)
    have d1 := c1 [some (.obj 0), some (.d (.int rooms)), some (.d (.int hours)), some (.d (.int 5)), some (.d (.tuple (es.map E.enc))), some (.d (.int j)), none, none, none, none] (.cons (.var 0) (.cons (.ite (.cmp .Gt (.var 1) (.cst (.int 1))) (.cst (.int 5)) (.cst (.int 4))) .nil)) (by
      have hm1 := hme [some (.obj 0), some (.d (.int rooms)), some (.d (.int hours)), some (.d (.int 5)), some (.d (.tuple (es.map E.enc))), some (.d (.int j)), none, none, none, none] [o] rfl
      simp [-ev_ite, hm1])
    have d2 := c2 [some (.obj 0), some (.d (.int rooms)), some (.d (.int hours)), some (.d (.int 5)), some (.d (.tuple (es.map E.enc))), some (.d (.int j)), none, none, none, none] (.cons (.var 0) (.cons (.var 1) .nil)) (by simp)
    have hw' : ixD (.list wl) (.int a) = some (.str w) := hw
    unfold wl at hw'
    simp [d1, d2, hw']
  have s2 : ev (F (k + 1)) [] (.comp (.nm 9) (.rng (.var 1)) (.cons (.cmp .NotEq (.var 9) (.var 7)) .nil) (.var 9)) [some (.obj 0), some (.d (.int rooms)), some (.d (.int hours)), some (.d (.int 5)), some (.d (.tuple (es.map E.enc))), some (.d (.int j)), some (.d (.str w)), some (.d (.int b)), none, none] [o2] = some (.d (.list (O.map fun (j : Nat) => PyData.int (j : Int))), [o2]) := by
    rw [← hO]
    refine q_filt (fun (j : Nat) => PyData.int (j : Int)) (fun (j : Nat) => PyData.int (j : Int)) (fun (j : Nat) => decide ((j : Int) ≠ b)) (List.range rooms) (by simp [hrg]) fun j _ => ?_
    refine r_cfi (v := .d (.bool (decide ((j : Int) ≠ b)))) (by simp; rfl) ?_ rfl fun _ => ?_
    · simp
    · simp
  have d3 := c3 [some (.obj 0), some (.d (.int rooms)), some (.d (.int hours)), some (.d (.int 5)), some (.d (.tuple (es.map E.enc))), some (.d (.int j)), some (.d (.str w)), some (.d (.int b)), some (.d (.list (O.map fun (j : Nat) => PyData.int (j : Int)))), none] (.cons (.var 0) (.cons (.var 2) .nil)) (by simp)
  by_cases hs : w = "same"
  · have ha : a = 4 := by
      rcases hww with h | h | h | ⟨_, h⟩
      · exact absurd (h.symm.trans hs) nsl
      · exact absurd (h.symm.trans hs) nsn
      · exact absurd (h.symm.trans hs) nsq
      · exact h
    have hr : 1 < rooms := by omega
    have hp : 0 < O.length := by
      rw [← hO, List.length_pos_iff_exists_mem]
      by_cases hb : b = 0
      · exact ⟨1, List.mem_filter.mpr ⟨List.mem_range.mpr hr, by simp [hb]⟩⟩
      · exact ⟨0, List.mem_filter.mpr ⟨List.mem_range.mpr (by omega), by simp; omega⟩⟩
    have hO3 : O.length ≤ 3 := by
      rw [← hO]
      refine Nat.le_trans (List.length_filter_le _ _) ?_
      simpa using r1
    obtain ⟨d, o4, d0, d1, i4, c4⟩ := nx k hn i3 (many := O.length) (by omega) (by omega)
    have d4 := c4 [some (.obj 0), some (.d (.int rooms)), some (.d (.int hours)), some (.d (.int 5)), some (.d (.tuple (es.map E.enc))), some (.d (.int j)), some (.d (.str w)), some (.d (.int b)), some (.d (.list (O.map fun (j : Nat) => PyData.int (j : Int)))), none] (.cons (.var 0) (.cons (.blt .len (.cons (.var 8) .nil)) .nil)) (by simp [bltD])
    have a4 : ixD (.list (O.map fun (j : Nat) => PyData.int (j : Int))) (.int d) = some (.int ((O.getD d.toNat 0 : Nat) : Int)) := at_map (fun (j : Nat) => PyData.int (j : Int)) O 0 d d0 d1
    generalize hoe : ((O.getD d.toNat 0 : Nat) : Int) = oe at a4
    have b4 := ba (E.mk w c b (some oe))
    refine ⟨E.mk w c b (some oe), o4, i4, .inr ⟨hs, _, rfl⟩, ?_⟩
    refine (f_nx (e1 := [some (.obj 0), some (.d (.int rooms)), some (.d (.int hours)), some (.d (.int 5)), some (.d (.tuple (es.map E.enc))), some (.d (.int j)), none, none, none, none]) (by simp) (r_nx s1 (r_nx (r_asg s2) (r_nx (r_asg (v := .d (.tuple (es.map E.enc ++ [(E.mk w c b (some oe)).enc]))) (S1 := [o4]) ?_) r_nil)))).trans ?_
    · have hE : (E.mk w c b (some oe)).enc = .tuple [.str w, .int c, .int b, .int oe] := rfl
      rw [hE] at b4 ⊢
      subst hs
      simp [d3, d4, a4, b4]
    · simp
  · have b4 := ba (E.mk w c b none)
    refine ⟨E.mk w c b none, o3, i3, .inl ⟨?_, rfl⟩, ?_⟩
    · rcases hww with h | h | h | ⟨h, _⟩
      · exact .inl h
      · exact .inr (.inl h)
      · exact .inr (.inr h)
      · exact absurd h hs
    refine (f_nx (e1 := [some (.obj 0), some (.d (.int rooms)), some (.d (.int hours)), some (.d (.int 5)), some (.d (.tuple (es.map E.enc))), some (.d (.int j)), none, none, none, none]) (by simp) (r_nx s1 (r_nx (r_asg s2) (r_nx (r_asg (v := .d (.tuple (es.map E.enc ++ [(E.mk w c b none).enc]))) (S1 := [o3]) ?_) r_nil)))).trans ?_
    · have hE : (E.mk w c b none).enc = .tuple [.str w, .int c, .int b, .none] := rfl
      rw [hE] at b4 ⊢
      simp [d3, hs, b4]
    · simp
theorem m_entries (k : Nat) {ns : List Int} {o : Ob} (hn : ns.length ≤ 63) (ho : isDr ns o) (rooms hours : Nat) (r0 : 1 ≤ rooms) (r1 : rooms ≤ 3) (q0 : 1 ≤ hours) (q1 : hours ≤ 2) :
    ∃ (es : List E) (o' : Ob), isDr ns o' ∧ es.length ≤ 5 ∧ (∀ e ∈ es, E.ok e) ∧ run (F (k + 1)) [] 10 b__law_entries [.obj 0, .d (.int rooms), .d (.int hours), .d (.int 5)] [o] = some (.d (.tuple (es.map E.enc)), [o']) := by
  unfold b__law_entries
  obtain ⟨n, o1, n0, n1, i1, c1⟩ := nx k hn ho (many := 6) (by omega) (by omega)
  obtain ⟨m, rfl⟩ : ∃ m : Nat, n = (m : Int) := ⟨n.toNat, by omega⟩
  have d1 := c1 [some (.obj 0), some (.d (.int rooms)), some (.d (.int hours)), some (.d (.int 5)), some (.d (.tuple [])), none, none, none, none, none] (.cons (.var 0) (.cons (.bin .Add (.var 3) (.cst (.int 1))) .nil)) (by simp)
  have hrg := rng_nat m (by omega)
  obtain ⟨⟨es, o2⟩, ⟨j1, j2, j3⟩, lp⟩ := forL_ex (fun (j : Nat) => PyData.int (j : Int)) _ (fun (st : List E × Ob) => [some (.obj 0), some (.d (.int rooms)), some (.d (.int hours)), some (.d (.int 5)), some (.d (.tuple (st.1.map E.enc))), none, none, none, none, none]) (fun st => [st.2]) (fun r st => isDr ns st.2 ∧ (∀ e ∈ st.1, E.ok e) ∧ st.1.length + r.length ≤ 5) (fun j r st ⟨j1, j2, j3⟩ => by
    rw [List.length_cons] at j3
    obtain ⟨e, o', w1, w2, w3⟩ := ent_step k hn j1 rooms hours r0 r1 q0 q1 st.1 (by omega) j
    refine ⟨(st.1 ++ [e], o'), w3, w1, fun x hx => ?_, by simp; omega⟩
    rcases List.mem_append.mp hx with hx | hx
    · exact j2 x hx
    · rw [List.mem_singleton] at hx
      exact hx ▸ w2) (List.range m) ([], o1) ⟨i1, by simp, by simp; omega⟩
  refine ⟨es, o2, j1, by simpa using j3, j2, ?_⟩
  exact s_run (s_nx _ (r_asg (v := .d (.tuple [])) (S1 := [o]) (by simp)) (s_nx _ (r_for (xs := (List.range m).map fun (j : Nat) => PyData.int (j : Int)) (S1 := [o1]) (by rw [x_rng]; simp [d1, hrg]) lp) (s_rt (s_ret (by simp)))))
end KL

namespace KL
open PySem PySem.Spec PyProof.Rows L2 PV
/-! the plain law -/
theorem lo_mono {rooms : Nat} {es es' : List E} {h : Int} (sub : ∀ e ∈ es', e.h = h → e ∈ es) (hn : Lo rooms es h ≠ []) : Lo rooms es' h ≠ [] := by
  obtain ⟨l, hl⟩ := List.exists_mem_of_ne_nil _ hn
  unfold Lo at hl
  obtain ⟨h1, h2⟩ := List.mem_filter.mp hl
  have : l ∈ Lo rooms es' h := by
    unfold Lo
    refine List.mem_filter.mpr ⟨h1, ?_⟩
    rw [List.all_eq_true] at h2 ⊢
    intro e he
    obtain ⟨e1, e2⟩ := List.mem_filter.mp he
    have e2 : e.h = h := by simpa using e2
    exact h2 e (List.mem_filter.mpr ⟨sub e e1 e2, by simpa using e2⟩)
  exact List.ne_nil_of_mem this
theorem rI_ge (es : List E) : (rI es.length).map (ge es) = es := by
  apply List.ext_getElem?
  intro i
  unfold rI ge
  by_cases h : i < es.length
  · simp [h]
  · simp [h]
theorem rI_gi (O : List Int) : (rI O.length).map (gi O) = O := by
  apply List.ext_getElem?
  intro i
  unfold rI gi
  by_cases h : i < O.length
  · simp [h]
  · simp [h]
theorem ge_mem {es : List E} {i : Int} (h0 : 0 ≤ i) (h1 : i < es.length) : ge es i ∈ es := by
  have h2 : i.toNat < es.length := by omega
  have : ge es i = es[i.toNat] := by
    unfold ge
    simp [h2]
  rw [this]
  exact List.getElem_mem h2
theorem rI_sorted (n : Nat) : (rI n).Pairwise (· < ·) := by
  unfold rI
  rw [List.pairwise_map]
  exact List.pairwise_lt_range.imp fun h => by omega
theorem own_sorted (es : List E) (h : Int) : (Own es h).Pairwise (· < ·) := (rI_sorted _).filter _
theorem gi_lt {O : List Int} (hs : O.Pairwise (· < ·)) {i j : Int} (i0 : 0 ≤ i) (i1 : i < O.length) (j0 : 0 ≤ j) (j1 : j < O.length) : i < j ↔ gi O i < gi O j := by
  have hi : i.toNat < O.length := by omega
  have hj : j.toNat < O.length := by omega
  have ei : gi O i = O[i.toNat] := by unfold gi; simp [hi]
  have ej : gi O j = O[j.toNat] := by unfold gi; simp [hj]
  rw [List.pairwise_iff_getElem] at hs
  rw [ei, ej]
  constructor
  · intro h
    exact hs _ _ hi hj (by omega)
  · intro h
    rcases Int.lt_trichotomy i j with z | z | z
    · exact z
    · subst z
      omega
    · have := hs _ _ hj hi (by omega)
      omega
theorem sets_own (O : List Int) (hs : O.Pairwise (· < ·)) : setsL O = (setsL (rI O.length)).map (·.map (gi O)) := by
  have := setsL_map (g := gi O) (xs := rI O.length) fun i hi j hj => by
    obtain ⟨i0, i1⟩ := mem_rI.mp hi
    obtain ⟨j0, j1⟩ := mem_rI.mp hj
    exact gi_lt hs i0 i1 j0 j1
  rw [rI_gi] at this
  exact this
def Bad (rooms : Nat) (es : List E) (h : Int) : List (List Int) := (setsL (Own es h)).filter fun s => decide (Lo rooms (s.map (ge es)) h = [])
def Du (rooms : Nat) (es : List E) (st : Option (Int × List Int)) (h : Int) : Option (Int × List Int) := if st = none ∧ Bad rooms es h ≠ [] then some (h, (Bad rooms es h).headD []) else st
theorem findSome_if {α β : Type} (P : α → Bool) (g : α → β) : ∀ L : List α, (L.findSome? fun s => if P s = true then some (g s) else none) = (L.find? P).map g
  | [] => rfl
  | x :: L => by
    rw [List.findSome?_cons, List.find?_cons]
    by_cases h : P x = true
    · simp [h]
    · have h' : P x = false := by simpa using h
      simp [h', findSome_if P g L]
theorem head_filter {α : Type} (P : α → Bool) (d : α) : ∀ L : List α, L.find? P = if L.filter P = [] then none else some ((L.filter P).headD d)
  | [] => rfl
  | x :: L => by
    rw [List.find?_cons, List.filter_cons]
    by_cases h : P x = true
    · simp [h]
    · have h' : P x = false := by simpa using h
      simp only [h', Bool.false_eq_true, if_false]
      exact head_filter P d L
theorem fq_hour (rooms : Nat) (es : List E) (h : Int) : (if Lo rooms es h = [] then (setsL (rI (Own es h).length)).findSome? fun s => if Lo rooms ((s.map (gi (Own es h))).map (ge es)) h = [] then some (h, s.map (gi (Own es h))) else none else none) = if Bad rooms es h = [] then none else some (h, (Bad rooms es h).headD []) := by
  by_cases hL : Lo rooms es h = []
  · rw [if_pos hL]
    have e1 : ((setsL (rI (Own es h).length)).findSome? fun s => if Lo rooms ((s.map (gi (Own es h))).map (ge es)) h = [] then some (h, s.map (gi (Own es h))) else none) = ((setsL (Own es h)).findSome? fun s => if Lo rooms (s.map (ge es)) h = [] then some (h, s) else none) := by
      rw [sets_own (Own es h) (own_sorted es h), List.findSome?_map]
      rfl
    rw [e1]
    have e2 := findSome_if (fun s => decide (Lo rooms (s.map (ge es)) h = [])) (fun s => (h, s)) (setsL (Own es h))
    simp only [decide_eq_true_eq] at e2
    rw [e2, head_filter _ []]
    unfold Bad
    split <;> rfl
  · rw [if_neg hL]
    have : Bad rooms es h = [] := by
      unfold Bad
      rw [List.filter_eq_nil_iff]
      intro s hs
      have sub := mem_sub hs
      simp only [decide_eq_true_eq]
      refine lo_mono (es := es) (fun e he _ => ?_) hL
      obtain ⟨i, hi, rfl⟩ := List.mem_map.mp he
      obtain ⟨i0, i1⟩ := own_mem (sub i hi)
      exact ge_mem i0 i1
    rw [if_pos this]
theorem fold_first {α β : Type} (G : α → Option β) : ∀ (L : List α) (st : Option β), L.foldl (fun st x => if st = none then G x else st) st = match st with
    | none => L.findSome? G
    | some b => some b
  | [], none => rfl
  | [], some b => rfl
  | x :: L, some b => by
    rw [List.foldl_cons]
    simp only [reduceCtorEq, if_false]
    rw [fold_first G L (some b)]
  | x :: L, none => by
    rw [List.foldl_cons, List.findSome?_cons]
    simp only [if_true]
    rw [fold_first G L (G x)]
    cases G x <;> rfl
theorem du_eq (rooms hours : Nat) (es : List E) : (List.range hours).foldl (fun st (h : Nat) => Du rooms es st (h : Int)) none = Fq rooms hours es := by
  unfold Fq
  have e1 : (fun (st : Option (Int × List Int)) (h : Nat) => Du rooms es st (h : Int)) = fun st (h : Nat) => if st = none then (if Bad rooms es (h : Int) = [] then none else some ((h : Int), (Bad rooms es (h : Int)).headD [])) else st := by
    funext st h
    unfold Du
    cases st with
    | none => by_cases hB : Bad rooms es (h : Int) = [] <;> simp [hB]
    | some b => simp
  rw [e1, fold_first]
  simp only
  refine congrArg (fun f => List.findSome? f (List.range hours)) (funext fun h => ?_)
  rw [fq_hour]
theorem lo_nil (rooms : Nat) (h : Int) : Lo rooms [] h ≠ [] := by
  obtain ⟨r, hr⟩ := setsL_head (rI rooms)
  unfold Lo
  rw [hr]
  simp
theorem fw_some (rooms hours : Nat) (es : List E) : ∃ s, Fw rooms hours es = some s := by
  have : (Fw rooms hours es).isSome = true := by
    unfold Fw
    rw [List.find?_isSome]
    refine ⟨rI es.length, full_mem _, ?_⟩
    have hl : Left es (rI es.length) = [] := by
      unfold Left
      have : ((rI es.length).filter fun i => decide (i ∉ rI es.length)) = [] := by
        rw [List.filter_eq_nil_iff]
        intro i hi
        simp [hi]
      rw [this]
      rfl
    rw [hl]
    unfold Can
    rw [List.all_eq_true]
    intro h _
    simp [lo_nil]
  exact Option.isSome_iff_exists.mp this
theorem fw_can {rooms hours : Nat} {es : List E} {s : List Int} (h : Fw rooms hours es = some s) : Can rooms hours (Left es s) = true := by
  unfold Fw at h
  exact List.find?_some (p := fun s => Can rooms hours (Left es s)) h
theorem left_nil (es : List E) : Left es [] = es := by
  unfold Left
  rw [List.filter_eq_self.mpr (by simp), rI_ge]
theorem own_ge (es : List E) (h : Int) : (Own es h).map (ge es) = es.filter fun e => decide (e.h = h) := by
  have : es.filter (fun e => decide (e.h = h)) = ((rI es.length).map (ge es)).filter fun e => decide (e.h = h) := by rw [rI_ge]
  rw [this, List.filter_map]
  rfl
theorem lo_own (rooms : Nat) (es : List E) (h : Int) : Lo rooms ((Own es h).map (ge es)) h = Lo rooms es h := by
  unfold Lo
  rw [own_ge, List.filter_filter]
  simp
theorem nil_iff {rooms hours : Nat} {es : List E} {s : List Int} (hs : Fw rooms hours es = some s) : s = [] ↔ Fq rooms hours es = none := by
  have key : Fq rooms hours es = none ↔ Can rooms hours es = true := by
    unfold Fq Can
    rw [List.findSome?_eq_none_iff, List.all_eq_true]
    refine forall_congr' fun h => imp_congr_right fun _ => ?_
    rw [fq_hour, decide_eq_true_eq]
    constructor
    · intro hb hL
      have : Own es (h : Int) ∈ Bad rooms es h := by
        unfold Bad
        refine List.mem_filter.mpr ⟨full_mem _, ?_⟩
        simp [lo_own, hL]
      have ne := List.ne_nil_of_mem this
      rw [if_neg ne] at hb
      cases hb
    · intro hL
      have : Bad rooms es (h : Int) = [] := by
        unfold Bad
        rw [List.filter_eq_nil_iff]
        intro s hs
        have sub := mem_sub hs
        simp only [decide_eq_true_eq]
        refine lo_mono (es := es) (fun e he _ => ?_) hL
        obtain ⟨i, hi, rfl⟩ := List.mem_map.mp he
        obtain ⟨i0, i1⟩ := own_mem (sub i hi)
        exact ge_mem i0 i1
      rw [if_pos this]
  rw [key]
  constructor
  · rintro rfl
    have := fw_can hs
    rwa [left_nil] at this
  · intro hc
    obtain ⟨r, hr⟩ := setsL_head (rI es.length)
    unfold Fw at hs
    rw [hr, List.find?_cons] at hs
    rw [left_nil, hc] at hs
    exact (Option.some.inj hs).symm
end KL

namespace KL
open PySem PySem.Spec PyProof.Rows L2 PV
theorem bld_size_aux : ∀ (xs : List Int) (st : List (List Int)) (n : Nat), (∀ s ∈ st, s.length ≤ n) → ∀ s ∈ xs.foldl (fun f x => f ++ f.map fun s => s ++ [x]) st, s.length ≤ n + xs.length
  | [], st, n, h, s, hs => by have := h s hs; simpa using this
  | x :: xs, st, n, h, s, hs => by
    rw [List.foldl_cons] at hs
    have := bld_size_aux xs _ (n + 1) (fun s hs => by
      rcases List.mem_append.mp hs with hs | hs
      · have := h s hs; omega
      · obtain ⟨s', hs', rfl⟩ := List.mem_map.mp hs
        have := h s' hs'
        simp; omega) s hs
    rw [List.length_cons]
    omega
theorem sets_size {xs s : List Int} (h : s ∈ setsL xs) : s.length ≤ xs.length := by
  have := bld_size_aux xs [[]] 0 (by simp) s (mem_setsL.mp h)
  omega
theorem fit_L (n : Nat) (s : List Int) (h : s.length ≤ 16777216) : fitS (n + 2) (encL s) = true := by
  unfold encL
  simp only [fitS, List.length_map, Bool.and_eq_true, decide_eq_true_eq]
  refine ⟨h, fitL_of fun x hx => ?_⟩
  obtain ⟨i, _, rfl⟩ := List.mem_map.mp hx
  rfl
theorem own_len (es : List E) (h : Int) : (Own es h).length ≤ es.length := by
  unfold Own
  refine Nat.le_trans (List.length_filter_le _ _) ?_
  simp [rI]
theorem fit_Q (rooms hours : Nat) (es : List E) (hl : es.length ≤ 5) : fitS 4 (encQ (Fq rooms hours es)) = true := by
  cases hq : Fq rooms hours es with
  | none => rfl
  | some p =>
    obtain ⟨h, s⟩ := p
    unfold Fq at hq
    obtain ⟨h', _, e⟩ := List.exists_of_findSome?_eq_some hq
    rw [fq_hour] at e
    split at e
    · cases e
    · rename_i ne
      cases e
      have hm : (Bad rooms es (h' : Int)).headD [] ∈ Bad rooms es (h' : Int) := by
        cases hB : Bad rooms es (h' : Int) with
        | nil => exact absurd hB ne
        | cons b bs => simp
      have h1 := sets_size (List.mem_filter.mp hm).1
      have h2 := own_len es (h' : Int)
      simp only [encQ, fitS, fitL, List.length_cons, List.length_nil, Bool.and_eq_true, decide_eq_true_eq]
      exact ⟨by omega, trivial, fit_L 1 _ (by omega), trivial⟩
abbrev Ev (sc : A) (rooms hours : Nat) (es : List E) (due h good sm told own bad left : Option A) : En := [some sc, some (.obj 0), some (.d (.int rooms)), some (.d (.int hours)), some (.d (.tuple (es.map E.enc))), some (.d (.list ((rI es.length).map .int))), due, h, good, sm, told, own, bad, left, none]
def encG : Option (List Int) → PyData
  | none => .none
  | some s => encL s
theorem isQ (q : Option (Int × List Int)) : isD (.d (encQ q)) .none = some (decide (q = none)) := by cases q <;> rfl
theorem isG (q : Option (List Int)) : isD (.d (encG q)) .none = some (decide (q = none)) := by cases q <;> rfl
/-- entries at places -/
theorem at_places (k : Nat) (sc : A) (rooms hours : Nat) (es : List E) (S : Sto) (due h good sm told own bad left : Option A) (s : List Int) (hs : ∀ i ∈ s, 0 ≤ i ∧ i < es.length) (hsm : sm = some (.d (encL s))) :
    ev (F k) [] (.comp (.nm 14) (.seq (.var 9)) .nil (.ix (.var 4) (.var 14))) (Ev sc rooms hours es due h good sm told own bad left) S = some (.d (.list ((s.map (ge es)).map E.enc)), S) := by
  subst hsm
  rw [List.map_map]
  refine q_map PyData.int _ s (by simp [encL]) fun i hi => ?_
  obtain ⟨i0, i1⟩ := hs i hi
  have a := Es.ix (X := .tuple (es.map E.enc)) (.inr rfl) i i0 i1
  refine r_cf (by simp; rfl) ?_
  simp [a]
theorem own_ev (k : Nat) (sc : A) (rooms hours : Nat) (es : List E) (S : Sto) (due good sm told own bad left : Option A) (h : Int) :
    ev (F k) [] (.comp (.nm 14) (.seq (.var 5)) (.cons (.cmp .Eq (.ix (.ix (.var 4) (.var 14)) (.cst (.int 1))) (.var 7)) .nil) (.var 14)) (Ev sc rooms hours es due (some (.d (.int h))) good sm told own bad left) S = some (.d (.list ((Own es h).map .int)), S) := by
  refine q_filt PyData.int PyData.int (fun i => decide ((ge es i).h = h)) (rI es.length) (by simp) fun i hi => ?_
  obtain ⟨i0, i1⟩ := mem_rI.mp hi
  have a := Es.ix (X := .tuple (es.map E.enc)) (.inr rfl) i i0 i1
  have b : ixD (ge es i).enc (.int 1) = some (.int (ge es i).h) := by simp [E.enc, ixD]
  refine r_cfi (v := .d (.bool (decide ((ge es i).h = h)))) (by simp; rfl) ?_ rfl fun _ => ?_
  · simp [a, b]
  · simp
theorem left_ev (k : Nat) (sc : A) (rooms hours : Nat) (es : List E) (S : Sto) (due h good sm told own bad left : Option A) (s : List Int) (j : Nat) (hj : (j = 9 ∧ sm = some (.d (encL s))) ∨ (j = 10 ∧ told = some (.d (encL s)))) :
    ev (F k) [] (.comp (.nm 14) (.seq (.var 5)) (.cons (.cmp .NotIn (.var 14) (.var j)) .nil) (.ix (.var 4) (.var 14))) (Ev sc rooms hours es due h good sm told own bad left) S = some (.d (.list ((Left es s).map E.enc)), S) := by
  have := q_filt (Φ := F k) (Γ := []) (S := S) (env := Ev sc rooms hours es due h good sm told own bad left) (tg := .nm 14) (it := .seq (.var 5)) (t := .cmp .NotIn (.var 14) (.var j)) (e := .ix (.var 4) (.var 14)) PyData.int (fun i => (ge es i).enc) (fun i => decide (i ∉ s)) (rI es.length) (by simp) fun i hi => ?_
  · rw [this]
    unfold Left
    rw [List.map_map]
    rfl
  · obtain ⟨i0, i1⟩ := mem_rI.mp hi
    have a := Es.ix (X := .tuple (es.map E.enc)) (.inr rfl) i i0 i1
    refine r_cfi (v := .d (.bool (decide (i ∉ s)))) (by simp; rfl) ?_ rfl fun _ => ?_
    · rcases hj with ⟨rfl, rfl⟩ | ⟨rfl, rfl⟩
      · simp
      · simp
    · simp [a]
theorem du_step (k : Nat) (sc : A) (rooms hours : Nat) (es : List E) (o : Ob) (st : Option (Int × List Int)) (h : Nat) (hr : rooms ≤ 20) (hl : es.length ≤ 5) (hes : ∀ e ∈ es, E.ok e) :
    fF (F (k + 4)) [] (.nm 7) (.cons (.asg (.nm 11) (.comp (.nm 14) (.seq (.var 5)) (.cons (.cmp .Eq (.ix (.ix (.var 4) (.var 14)) (.cst (.int 1))) (.var 7)) .nil) (.var 14))) (.cons (.asg (.nm 12) (.comp (.nm 9) (.seq (.call 10 (.cons (.var 11) .nil))) (.cons (.cmp .Eq (.call 13 (.cons (.var 2) (.cons (.comp (.nm 14) (.seq (.var 9)) .nil (.ix (.var 4) (.var 14))) (.cons (.var 7) .nil)))) (.lst .nil)) .nil) (.var 9))) (.cons (.asg (.nm 6) (.ite (.and (.cons (.cmp .Is (.var 6) (.cst .none)) (.cons (.cmp .NotEq (.var 12) (.lst .nil)) .nil))) (.tup (.cons (.var 7) (.cons (.ix (.var 12) (.cst (.int 0))) .nil))) (.var 6))) .nil))) [7, 11, 12]
      (.int h) (Ev sc rooms hours es (some (.d (encQ st))) none none none none none none none) [o] = some (.nx, Ev sc rooms hours es (some (.d (encQ (Du rooms es st (h : Int))))) none none none none none none none, [o]) := by
  have s1 := own_ev (k + 4) sc rooms hours es [o] (some (.d (encQ st))) none none none none none none (h : Int)
  have c1 := r_call0 (Φ := F (k + 4)) (Γ := []) (env := Ev sc rooms hours es (some (.d (encQ st))) (some (.d (.int h))) none none none (some (.d (.list ((Own es (h : Int)).map .int)))) none none) (S := [o]) (S1 := [o]) (f := 10) (es := .cons (.var 11) .nil) (as := [.d (.list ((Own es (h : Int)).map .int))]) (by simp) (g10 (k + 3)) (m_law_sets (F (k + 3)) (Own es (h : Int)) [o] (by have := own_len es (h : Int); omega))
  have s2 : ev (F (k + 4)) [] (.comp (.nm 9) (.seq (.call 10 (.cons (.var 11) .nil))) (.cons (.cmp .Eq (.call 13 (.cons (.var 2) (.cons (.comp (.nm 14) (.seq (.var 9)) .nil (.ix (.var 4) (.var 14))) (.cons (.var 7) .nil)))) (.lst .nil)) .nil) (.var 9)) (Ev sc rooms hours es (some (.d (encQ st))) (some (.d (.int h))) none none none (some (.d (.list ((Own es (h : Int)).map .int)))) none none) [o] = some (.d (.list ((Bad rooms es (h : Int)).map encL)), [o]) := by
    refine q_filt encL encL (fun s => decide (Lo rooms (s.map (ge es)) (h : Int) = [])) (setsL (Own es (h : Int))) (by simp [c1]) fun s hs => ?_
    have hs' : ∀ i ∈ s, 0 ≤ i ∧ i < es.length := fun i hi => own_mem (mem_sub hs i hi)
    refine r_cfi (v := .d (.bool (decide (Lo rooms (s.map (ge es)) (h : Int) = [])))) (e1 := Ev sc rooms hours es (some (.d (encQ st))) (some (.d (.int h))) none (some (.d (encL s))) none (some (.d (.list ((Own es (h : Int)).map .int)))) none none) (by simp) ?_ rfl fun _ => ?_
    · have a := at_places (k + 4) sc rooms hours es [o] (some (.d (encQ st))) (some (.d (.int h))) none (some (.d (encL s))) none (some (.d (.list ((Own es (h : Int)).map .int)))) none none s hs' rfl
      have c2 := r_call0 (Φ := F (k + 4)) (Γ := []) (env := Ev sc rooms hours es (some (.d (encQ st))) (some (.d (.int h))) none (some (.d (encL s))) none (some (.d (.list ((Own es (h : Int)).map .int)))) none none) (S := [o]) (S1 := [o]) (f := 13) (es := .cons (.var 2) (.cons (.comp (.nm 14) (.seq (.var 9)) .nil (.ix (.var 4) (.var 14))) (.cons (.var 7) .nil))) (as := [.d (.int rooms), .d (.list ((s.map (ge es)).map E.enc)), .d (.int h)]) (by simp [a]) (g13 (k + 3)) (m_law_loud (k + 2) rooms (s.map (ge es)) _ h [o] hr (fun e he => by
          obtain ⟨i, hi, rfl⟩ := List.mem_map.mp he
          obtain ⟨i0, i1⟩ := hs' i hi
          exact ge_ok hes i0 i1) (.inl rfl))
      rw [ev_cmp, c2]
      generalize Lo rooms (s.map (ge es)) (h : Int) = Z
      simp [eqvD_nil]
    · simp
  refine (f_nx (e1 := Ev sc rooms hours es (some (.d (encQ st))) (some (.d (.int h))) none none none none none none) (by simp) (r_nx (r_asg s1) (r_nx (r_asg s2) (r_nx (r_asg (v := .d (encQ (Du rooms es st (h : Int)))) (S1 := [o]) ?_) r_nil)))).trans ?_
  · unfold Du
    generalize Bad rooms es (h : Int) = B
    cases st with
    | some p => simp [isQ]
    | none =>
      cases B with
      | nil =>
        have := eqvD_nil []
        simp at this
        simp [isQ, this]
      | cons b bs =>
        have := eqvD_nil (b :: bs)
        simp at this
        simp [isQ, this, encQ, ixD]
  · simp
def Go (rooms hours : Nat) (es : List E) (st : Option (List Int)) (s : List Int) : Option (List Int) := if st = none then (if Can rooms hours (Left es s) = true then some s else none) else st
theorem go_eq (rooms hours : Nat) (es : List E) : (setsL (rI es.length)).foldl (Go rooms hours es) none = Fw rooms hours es := by
  have := fold_first (fun s => if Can rooms hours (Left es s) = true then some s else none) (setsL (rI es.length)) none
  simp only at this
  unfold Fw
  have e := findSome_if (fun s => Can rooms hours (Left es s)) id (setsL (rI es.length))
  rw [Option.map_id] at e
  simp only [id] at e
  rw [← e, ← this]
  rfl
theorem go_step (k : Nat) (sc : A) (rooms hours : Nat) (es : List E) (o : Ob) (due : Option A) (st : Option (List Int)) (s : List Int) (hr : rooms ≤ 20) (hh : hours ≤ 20) (hes : ∀ e ∈ es, E.ok e) :
    fF (F (k + 4)) [] (.nm 9) (.cons (.asg (.nm 13) (.comp (.nm 14) (.seq (.var 5)) (.cons (.cmp .NotIn (.var 14) (.var 9)) .nil) (.ix (.var 4) (.var 14)))) (.cons (.ifs (.and (.cons (.cmp .Is (.var 8) (.cst .none)) (.cons (.blt .all (.cons (.comp (.nm 7) (.rng (.var 3)) .nil (.cmp .NotEq (.call 13 (.cons (.var 2) (.cons (.var 13) (.cons (.var 7) .nil)))) (.lst .nil))) .nil)) .nil))) (.cons (.asg (.nm 8) (.var 9)) .nil) .nil) .nil)) [9, 13]
      (encL s) (Ev sc rooms hours es due none (some (.d (encG st))) none none none none none) [o] = some (.nx, Ev sc rooms hours es due none (some (.d (encG (Go rooms hours es st s)))) none none none none none, [o]) := by
  have s1 := left_ev (k + 4) sc rooms hours es [o] due none (some (.d (encG st))) (some (.d (encL s))) none none none none s 9 (.inl ⟨rfl, rfl⟩)
  have hn := rng_nat hours (by omega)
  have s2 : ev (F (k + 4)) [] (.blt .all (.cons (.comp (.nm 7) (.rng (.var 3)) .nil (.cmp .NotEq (.call 13 (.cons (.var 2) (.cons (.var 13) (.cons (.var 7) .nil)))) (.lst .nil))) .nil)) (Ev sc rooms hours es due none (some (.d (encG st))) (some (.d (encL s))) none none none (some (.d (.list ((Left es s).map E.enc))))) [o] = some (.d (.bool (Can rooms hours (Left es s))), [o]) := by
    refine r_blt (q_map (fun (h : Nat) => PyData.int (h : Int)) (fun (h : Nat) => .bool (decide (Lo rooms (Left es s) (h : Int) ≠ []))) (List.range hours) (by simp [hn]) fun h _ => ?_) (all_ok _ _)
    refine r_cf (e1 := Ev sc rooms hours es due (some (.d (.int h))) (some (.d (encG st))) (some (.d (encL s))) none none none (some (.d (.list ((Left es s).map E.enc))))) (by simp) ?_
    have c2 := r_call0 (Φ := F (k + 4)) (Γ := []) (env := Ev sc rooms hours es due (some (.d (.int h))) (some (.d (encG st))) (some (.d (encL s))) none none none (some (.d (.list ((Left es s).map E.enc))))) (S := [o]) (S1 := [o]) (f := 13) (es := .cons (.var 2) (.cons (.var 13) (.cons (.var 7) .nil))) (as := [.d (.int rooms), .d (.list ((Left es s).map E.enc)), .d (.int h)]) (by simp) (g13 (k + 3)) (m_law_loud (k + 2) rooms (Left es s) _ h [o] hr (left_ok hes s) (.inl rfl))
    rw [ev_cmp, c2]
    generalize Lo rooms (Left es s) (h : Int) = Z
    simp [eqvD_nil]
  unfold Go
  generalize Can rooms hours (Left es s) = C at s2
  have hT : ev (F (k + 4)) [] (.and (.cons (.cmp .Is (.var 8) (.cst .none)) (.cons (.blt .all (.cons (.comp (.nm 7) (.rng (.var 3)) .nil (.cmp .NotEq (.call 13 (.cons (.var 2) (.cons (.var 13) (.cons (.var 7) .nil)))) (.lst .nil))) .nil)) .nil))) (Ev sc rooms hours es due none (some (.d (encG st))) (some (.d (encL s))) none none none (some (.d (.list ((Left es s).map E.enc))))) [o] = some (.d (.bool (decide (st = none) && C)), [o]) := by
    cases st with
    | none => simp [-ev_blt, isG, s2]
    | some p => simp [-ev_blt, isG]
  cases st with
  | some p =>
    simp only [reduceCtorEq, decide_false, Bool.false_and] at hT
    have z := r_nx (r_asg (i := 13) s1) (r_nx (n_ifF (a := .cons (.asg (.nm 8) (.var 9)) .nil) hT) r_nil)
    rw [f_nx (e1 := Ev sc rooms hours es due none (some (.d (encG (some p)))) (some (.d (encL s))) none none none none) (by simp) z]
    simp
  | none =>
    cases C with
    | false =>
      simp only [Bool.and_false] at hT
      have z := r_nx (r_asg (i := 13) s1) (r_nx (n_ifF (a := .cons (.asg (.nm 8) (.var 9)) .nil) hT) r_nil)
      rw [f_nx (e1 := Ev sc rooms hours es due none (some (.d (encG none))) (some (.d (encL s))) none none none none) (by simp) z]
      simp
    | true =>
      simp only [decide_true, Bool.and_true] at hT
      have w : ev (F (k + 4)) [] (.var 9) (Ev sc rooms hours es due none (some (.d (encG none))) (some (.d (encL s))) none none none (some (.d (.list ((Left es s).map E.enc))))) [o] = some (.d (encL s), [o]) := by simp
      have z := r_nx (r_asg (i := 13) s1) (r_nx (r_ifT (b := .nil) hT (r_nx (r_asg (i := 8) w) r_nil)) r_nil)
      rw [f_nx (e1 := Ev sc rooms hours es due none (some (.d (encG none))) (some (.d (encL s))) none none none none) (by simp) z]
      simp [encG]
end KL

namespace KL
open PySem PySem.Spec PyProof.Rows L2 PV
theorem same_ev (k : Nat) {es : Exs} {env : En} {o : Ob} {x : PyData} (hf : fitS 4 x = true) (he : evs (F (k + 4)) [] es env [o] = some ([.d x, .d x], [o])) : ev (F (k + 4)) [] (.call 9 es) env [o] = some (.d (.bool true), [o]) :=
  r_call0 he (g9 (k + 3)) (same_ok [] F (i := 9) g9 4 x (k + 3) [o] hf (by omega))
theorem eqvD_w (w : List Int) : eqvD (encL w) (.tuple []) = some (decide (w = [])) := by
  have h1 : ∀ x : List Int, PyData.canLayAll0 (x.map .int) = true := fun x => by
    induction x with
    | nil => rfl
    | cons y x ih => rw [List.map_cons, PyData.canLayAll0, ih]; rfl
  unfold eqvD encL
  have ok : okEq (.tuple (w.map .int)) (.tuple []) = true := by
    unfold okEq SeqAt.shaped
    rw [PyData.canLay0, h1, PyData.depth, PySem.W.depth_ints]
    simp [PyData.canLay0, PyData.canLayAll0, PyData.depth, PyData.depthAll]
  rw [if_pos ok]
  congr 1
  cases w <;> simp [PyData.eqv, PyData.eqvAll]
theorem m_law (k : Nat) (ns : List Int) (hn : ns.length ≤ 63) : ∃ S, run (F (k + 4)) [] 15 b_law [.seq ns] [] = some (.d (.bool true), S) := by
  unfold b_law
  obtain ⟨o0, i0, d0⟩ := draw_ok (F (k + 3)) [] (ns := ns) (S := [])
  obtain ⟨a, o1, a0, a1, i1, c1⟩ := nx (k + 3) hn i0 (many := 3) (by omega) (by omega)
  obtain ⟨b, o2, b0, b1, i2, c2⟩ := nx (k + 3) hn i1 (many := 2) (by omega) (by omega)
  obtain ⟨rooms, hrm⟩ : ∃ m : Nat, 1 + a = (m : Int) := ⟨(1 + a).toNat, by omega⟩
  obtain ⟨hours, hhr⟩ : ∃ m : Nat, 1 + b = (m : Int) := ⟨(1 + b).toNat, by omega⟩
  have r0 : 1 ≤ rooms := by omega
  have r1 : rooms ≤ 3 := by omega
  have q0 : 1 ≤ hours := by omega
  have q1 : hours ≤ 2 := by omega
  obtain ⟨es, o, i3, hl, hes, e3⟩ := m_entries (k + 2) hn i2 rooms hours r0 r1 q0 q1
  have k0 : ev (F (k + 4)) [] (.call 7 (.cons (.var 0) .nil)) [some (.seq ns), none, none, none, none, none, none, none, none, none, none, none, none, none, none] [] = some (.obj 0, [o0]) := by
    rw [r_call (as := [.seq ns]) (S1 := []) (by simp) (g7 (k + 3)) d0]
    rfl
  have k1 := c1 [some (.seq ns), some (.obj 0), none, none, none, none, none, none, none, none, none, none, none, none, none] (.cons (.var 1) (.cons (.cst (.int 3)) .nil)) (by simp)
  have k2 := c2 [some (.seq ns), some (.obj 0), none, none, none, none, none, none, none, none, none, none, none, none, none] (.cons (.var 1) (.cons (.cst (.int 2)) .nil)) (by simp)
  have p1 : ex (F (k + 4)) [] (.par (.cons (.nm 2) (.cons (.nm 3) .nil)) (.cons (.bin .Add (.cst (.int 1)) (.call 8 (.cons (.var 1) (.cons (.cst (.int 3)) .nil)))) (.cons (.bin .Add (.cst (.int 1)) (.call 8 (.cons (.var 1) (.cons (.cst (.int 2)) .nil)))) .nil))) [some (.seq ns), some (.obj 0), none, none, none, none, none, none, none, none, none, none, none, none, none] [o0] = some (.nx, [some (.seq ns), some (.obj 0), some (.d (.int rooms)), some (.d (.int hours)), none, none, none, none, none, none, none, none, none, none, none], [o2]) :=
    r_par (vs := [.d (.int rooms), .d (.int hours)]) (S1 := [o2]) (by simp [k1, k2, hrm, hhr]) (by simp)
  have k3 : ev (F (k + 4)) [] (.call 11 (.cons (.var 1) (.cons (.var 2) (.cons (.var 3) (.cons (.cst (.int 5)) .nil))))) [some (.seq ns), some (.obj 0), some (.d (.int rooms)), some (.d (.int hours)), none, none, none, none, none, none, none, none, none, none, none] [o2] = some (.d (.tuple (es.map E.enc)), [o]) := by
    rw [r_call (as := [.obj 0, .d (.int rooms), .d (.int hours), .d (.int 5)]) (S1 := [o2]) (by simp) (g11 (k + 3)) e3, gc_len (by simp)]
  have hne := rng_nat es.length (by omega)
  have hnh := rng_nat hours (by omega)
  have p2 : ex (F (k + 4)) [] (.par (.cons (.nm 5) (.cons (.nm 6) .nil)) (.cons (.lrg (.blt .len (.cons (.var 4) .nil))) (.cons (.cst .none) .nil))) [some (.seq ns), some (.obj 0), some (.d (.int rooms)), some (.d (.int hours)), some (.d (.tuple (es.map E.enc))), none, none, none, none, none, none, none, none, none, none] [o] = some (.nx, Ev (.seq ns) rooms hours es (some (.d (encQ none))) none none none none none none none, [o]) :=
    r_par (vs := [.d (.list ((rI es.length).map .int)), .d .none]) (S1 := [o]) (by simp [ev_lrg, bltD, hne, rI_int]) (by simp [encQ])
  have l1 := forL_inv (fun (h : Nat) => PyData.int (h : Int)) _ (fun (st : Option (Int × List Int)) => Ev (.seq ns) rooms hours es (some (.d (encQ st))) none none none none none none none) [o] (fun st (h : Nat) => Du rooms es st (h : Int)) (fun _ _ => True) (fun h r st _ => ⟨du_step k (.seq ns) rooms hours es o st h (by omega) hl hes, trivial⟩) (List.range hours) none trivial
  rw [du_eq] at l1
  obtain ⟨w, hw⟩ := fw_some rooms hours es
  have l2 := forL_inv encL _ (fun (st : Option (List Int)) => Ev (.seq ns) rooms hours es (some (.d (encQ (Fq rooms hours es)))) none (some (.d (encG st))) none none none none none) [o] (Go rooms hours es) (fun _ _ => True) (fun s r st _ => ⟨go_step k (.seq ns) rooms hours es o (some (.d (encQ (Fq rooms hours es)))) st s (by omega) (by omega) hes, trivial⟩) (setsL (rI es.length)) none trivial
  rw [go_eq, hw] at l2
  have t1 := r_call0 (Φ := F (k + 4)) (Γ := []) (env := Ev (.seq ns) rooms hours es (some (.d (encQ (Fq rooms hours es)))) none none none none none none none) (S := [o]) (S1 := [o]) (f := 5) (es := .cons (.var 2) (.cons (.var 3) (.cons (.var 4) .nil))) (as := [.d (.int rooms), .d (.int hours), .d (.tuple (es.map E.enc))]) (by simp) (g5 (k + 3)) (m_quarrel k rooms hours es _ [o] (by omega) (by omega) (by omega) hes (.inr rfl))
  have t2 := same_ev k (es := .cons (.call 5 (.cons (.var 2) (.cons (.var 3) (.cons (.var 4) .nil)))) (.cons (.var 6) .nil)) (env := Ev (.seq ns) rooms hours es (some (.d (encQ (Fq rooms hours es)))) none none none none none none none) (o := o) (fit_Q rooms hours es hl) (by simp [t1])
  have t3 := r_call0 (Φ := F (k + 4)) (Γ := []) (env := Ev (.seq ns) rooms hours es (some (.d (encQ (Fq rooms hours es)))) none none none none none none none) (S := [o]) (S1 := [o]) (f := 10) (es := .cons (.var 5) .nil) (as := [.d (.list ((rI es.length).map .int))]) (by simp) (g10 (k + 3)) (m_law_sets (F (k + 3)) (rI es.length) [o] (by simp [rI]; omega))
  have t4 := r_call0 (Φ := F (k + 4)) (Γ := []) (env := Ev (.seq ns) rooms hours es (some (.d (encQ (Fq rooms hours es)))) none (some (.d (encG (some w)))) none none none none none) (S := [o]) (S1 := [o]) (f := 6) (es := .cons (.var 2) (.cons (.var 3) (.cons (.var 4) .nil))) (as := [.d (.int rooms), .d (.int hours), .d (.tuple (es.map E.enc))]) (by simp) (g6 (k + 3)) (m_fewest k rooms hours es _ [o] (by omega) (by omega) (by omega) hes (.inr rfl) w hw)
  have t5 := left_ev (k + 4) (.seq ns) rooms hours es [o] (some (.d (encQ (Fq rooms hours es)))) none (some (.d (encG (some w)))) none (some (.d (encL w))) none none none w 10 (.inr ⟨rfl, rfl⟩)
  have fw : fitS 4 (encL w) = true := by
    have h1 : w ∈ setsL (rI es.length) := List.mem_of_find?_eq_some hw
    have h2 := sets_size h1
    have h3 : (rI es.length).length = es.length := by simp [rI]
    exact fit_L 2 w (by omega)
  have t6 := same_ev k (es := .cons (.var 10) (.cons (.var 8) .nil)) (env := Ev (.seq ns) rooms hours es (some (.d (encQ (Fq rooms hours es)))) none (some (.d (encG (some w)))) none (some (.d (encL w))) none none none) (o := o) fw (by simp [encG])
  obtain ⟨xs, m3⟩ := m_least_noise (k + 1) rooms hours (Left es w) (.tuple ((Left es w).map E.enc)) [o] (by omega) (by omega) (left_ok hes w) (.inr rfl) (fw_can hw)
  have u0 : ev (F (k + 4)) [] (.blt .tuple (.cons (.comp (.nm 14) (.seq (.var 5)) (.cons (.cmp .NotIn (.var 14) (.var 10)) .nil) (.ix (.var 4) (.var 14))) .nil)) (Ev (.seq ns) rooms hours es (some (.d (encQ (Fq rooms hours es)))) none (some (.d (encG (some w)))) none (some (.d (encL w))) none none none) [o] = some (.d (.tuple ((Left es w).map E.enc)), [o]) := r_blt t5 rfl
  have t7 := r_call0 (Φ := F (k + 4)) (Γ := []) (env := Ev (.seq ns) rooms hours es (some (.d (encQ (Fq rooms hours es)))) none (some (.d (encG (some w)))) none (some (.d (encL w))) none none none) (S := [o]) (S1 := [o]) (f := 3) (es := .cons (.var 2) (.cons (.var 3) (.cons (.blt .tuple (.cons (.comp (.nm 14) (.seq (.var 5)) (.cons (.cmp .NotIn (.var 14) (.var 10)) .nil) (.ix (.var 4) (.var 14))) .nil)) .nil))) (as := [.d (.int rooms), .d (.int hours), .d (.tuple ((Left es w).map E.enc))]) (by simp [-ev_blt, u0]) (g3 (k + 3)) m3
  have ni := nil_iff hw
  have t8 : ev (F (k + 4)) [] (.or (.cons (.not (.call 9 (.cons (.var 10) (.cons (.var 8) .nil)))) (.cons (.cmp .NotEq (.cmp .Eq (.var 10) (.tup .nil)) (.cmp .Is (.var 6) (.cst .none))) .nil))) (Ev (.seq ns) rooms hours es (some (.d (encQ (Fq rooms hours es)))) none (some (.d (encG (some w)))) none (some (.d (encL w))) none none none) [o] = some (.d (.bool false), [o]) := by
    have q1 : eqvD (encL w) (.tuple []) = some (decide (w = [])) := by
      have := eqvD_w w
      exact this
    have q2 := isQ (Fq rooms hours es)
    have q3 : decide (w = []) = decide (Fq rooms hours es = none) := by
      rw [decide_eq_decide]
      exact ni
    simp [t6, q1, q2, q3]
  have t9 : ev (F (k + 4)) [] (.not (.call 9 (.cons (.call 5 (.cons (.var 2) (.cons (.var 3) (.cons (.var 4) .nil)))) (.cons (.var 6) .nil)))) (Ev (.seq ns) rooms hours es (some (.d (encQ (Fq rooms hours es)))) none none none none none none none) [o] = some (.d (.bool false), [o]) := by simp [t2]
  have v1 : evI (F (k + 4)) [] (.rng (.var 3)) (Ev (.seq ns) rooms hours es (some (.d (encQ none))) none none none none none none none) [o] = some ((List.range hours).map fun (h : Nat) => PyData.int (h : Int), [o]) := by simp [hnh]
  have v2 : evI (F (k + 4)) [] (.seq (.call 10 (.cons (.var 5) .nil))) (Ev (.seq ns) rooms hours es (some (.d (encQ (Fq rooms hours es)))) none (some (.d (encG none))) none none none none none) [o] = some ((setsL (rI es.length)).map encL, [o]) := by
    have t3' := r_call0 (Φ := F (k + 4)) (Γ := []) (env := Ev (.seq ns) rooms hours es (some (.d (encQ (Fq rooms hours es)))) none (some (.d (encG none))) none none none none none) (S := [o]) (S1 := [o]) (f := 10) (es := .cons (.var 5) .nil) (as := [.d (.list ((rI es.length).map .int))]) (by simp) (g10 (k + 3)) (m_law_sets (F (k + 3)) (rI es.length) [o] (by simp [rI]; omega))
    simp [t3']
  have v3 : ev (F (k + 4)) [] (.cst .none) (Ev (.seq ns) rooms hours es (some (.d (encQ (Fq rooms hours es)))) none none none none none none none) [o] = some (.d (encG none), [o]) := by simp [encG]
  have v4 : ev (F (k + 4)) [] (.cmp .IsNot (.call 3 (.cons (.var 2) (.cons (.var 3) (.cons (.blt .tuple (.cons (.comp (.nm 14) (.seq (.var 5)) (.cons (.cmp .NotIn (.var 14) (.var 10)) .nil) (.ix (.var 4) (.var 14))) .nil)) .nil)))) (.cst .none)) (Ev (.seq ns) rooms hours es (some (.d (encQ (Fq rooms hours es)))) none (some (.d (encG (some w)))) none (some (.d (encL w))) none none none) [o] = some (.d (.bool true), [o]) := by
    rw [ev_cmp, t7]
    simp
  refine ⟨[o], s_run (s_nx _ (r_asg (i := 1) k0) (s_nx _ p1 (s_nx _ (r_asg (i := 4) k3) (s_nx _ p2 (s_nx _ (r_for v1 l1) (s_nx _ (n_ifF t9) (s_nx _ (r_asg (i := 8) v3) (s_nx _ (r_for v2 l2) (s_nx _ (r_asg (i := 10) t4) (s_nx _ (n_ifF t8) (s_rt (s_ret v4))))))))))))⟩
theorem law_holds : ∀ ns : List Int, ns.length ≤ 63 → ∃ m S, (Ph [] ds 40)[14]? = some m ∧ m [.seq ns] [] = some (.d (.bool true), S) := fun ns hn => by
  obtain ⟨S, h⟩ := m_law 35 ns hn
  exact ⟨_, S, g14 39, h⟩
end KL

namespace KL
open PySem PySem.Spec PyProof.Rows L2 PV
theorem all_mk {l : PySem.W.OpenLaw} {w : World} {K : PySem.W.Frag} {h : Heap} {mg : Str → Option Value} {fa f0 f1 f2 f3 f4 f5 f6 f7 f8 f9 f10 f11 f12 f13 f14 : Addr} (X : K.In h) (G : h.Ns mainGlobals mg) (hfa : mg "law" = some (.ref fa))
  {od0 an0 od1 an1 od2 an2 od3 an3 od4 an4 od5 an5 od6 an6 od7 an7 od8 an8 od9 an9 od10 an10 od11 an11 od12 an12 od13 an13 od14 an14 : Option Addr} {sl0 sl1 sl2 sl3 sl4 sl5 sl6 sl7 sl8 sl9 sl10 sl11 sl12 sl13 sl14 : Array (Option Value)} {oc0 kV0 dc0 pm0 cd0 ct0 oc1 kV1 dc1 pm1 cd1 ct1 oc2 kV2 dc2 pm2 cd2 ct2 oc3 kV3 dc3 pm3 cd3 ct3 oc4 kV4 dc4 pm4 cd4 ct4 oc5 kV5 dc5 pm5 cd5 ct5 oc6 kV6 dc6 pm6 cd6 ct6 oc7 kV7 dc7 pm7 cd7 ct7 oc8 kV8 dc8 pm8 cd8 ct8 oc9 kV9 dc9 pm9 cd9 ct9 oc10 kV10 dc10 pm10 cd10 ct10 oc11 kV11 dc11 pm11 cd11 ct11 oc12 kV12 dc12 pm12 cd12 ct12 oc13 kV13 dc13 pm13 cd13 ct13 oc14 kV14 dc14 pm14 cd14 ct14 : Value}
  (a0 : PySem.W.nsIn K mainGlobals "is_true" = some (some (.ref f0))) (l0 : K.lookup f0 = some ⟨oc0, od0, .func (PySem.W.fnOf "is_true" "is_true" (defArgs s_is_true) (defBody s_is_true) (defScope s_is_true) .none kV0 dc0 pm0 an0 cd0 ct0), sl0⟩) (c0 : PySem.W.codeIn K cd0 "is_true" = true) (k0 : PySem.W.keepIn K (.ref f0) = true)
(a1 : PySem.W.nsIn K mainGlobals "sets_of" = some (some (.ref f1))) (l1 : K.lookup f1 = some ⟨oc1, od1, .func (PySem.W.fnOf "sets_of" "sets_of" (defArgs s_sets_of) (defBody s_sets_of) (defScope s_sets_of) .none kV1 dc1 pm1 an1 cd1 ct1), sl1⟩) (c1 : PySem.W.codeIn K cd1 "sets_of" = true) (k1 : PySem.W.keepIn K (.ref f1) = true)
(a2 : PySem.W.nsIn K mainGlobals "loud_sets" = some (some (.ref f2))) (l2 : K.lookup f2 = some ⟨oc2, od2, .func (PySem.W.fnOf "loud_sets" "loud_sets" (defArgs s_loud_sets) (defBody s_loud_sets) (defScope s_loud_sets) .none kV2 dc2 pm2 an2 cd2 ct2), sl2⟩) (c2 : PySem.W.codeIn K cd2 "loud_sets" = true) (k2 : PySem.W.keepIn K (.ref f2) = true)
(a3 : PySem.W.nsIn K mainGlobals "least_noise" = some (some (.ref f3))) (l3 : K.lookup f3 = some ⟨oc3, od3, .func (PySem.W.fnOf "least_noise" "least_noise" (defArgs s_least_noise) (defBody s_least_noise) (defScope s_least_noise) .none kV3 dc3 pm3 an3 cd3 ct3), sl3⟩) (c3 : PySem.W.codeIn K cd3 "least_noise" = true) (k3 : PySem.W.keepIn K (.ref f3) = true)
(a4 : PySem.W.nsIn K mainGlobals "can_all" = some (some (.ref f4))) (l4 : K.lookup f4 = some ⟨oc4, od4, .func (PySem.W.fnOf "can_all" "can_all" (defArgs s_can_all) (defBody s_can_all) (defScope s_can_all) .none kV4 dc4 pm4 an4 cd4 ct4), sl4⟩) (c4 : PySem.W.codeIn K cd4 "can_all" = true) (k4 : PySem.W.keepIn K (.ref f4) = true)
(a5 : PySem.W.nsIn K mainGlobals "first_quarrel" = some (some (.ref f5))) (l5 : K.lookup f5 = some ⟨oc5, od5, .func (PySem.W.fnOf "first_quarrel" "first_quarrel" (defArgs s_first_quarrel) (defBody s_first_quarrel) (defScope s_first_quarrel) .none kV5 dc5 pm5 an5 cd5 ct5), sl5⟩) (c5 : PySem.W.codeIn K cd5 "first_quarrel" = true) (k5 : PySem.W.keepIn K (.ref f5) = true)
(a6 : PySem.W.nsIn K mainGlobals "fewest_struck" = some (some (.ref f6))) (l6 : K.lookup f6 = some ⟨oc6, od6, .func (PySem.W.fnOf "fewest_struck" "fewest_struck" (defArgs s_fewest_struck) (defBody s_fewest_struck) (defScope s_fewest_struck) .none kV6 dc6 pm6 an6 cd6 ct6), sl6⟩) (c6 : PySem.W.codeIn K cd6 "fewest_struck" = true) (k6 : PySem.W.keepIn K (.ref f6) = true)
(a7 : PySem.W.nsIn K mainGlobals "_law_draw" = some (some (.ref f7))) (l7 : K.lookup f7 = some ⟨oc7, od7, .func (PySem.W.fnOf "_law_draw" "_law_draw" (defArgs s__law_draw) (defBody s__law_draw) (defScope s__law_draw) .none kV7 dc7 pm7 an7 cd7 ct7), sl7⟩) (c7 : PySem.W.codeIn K cd7 "_law_draw" = true) (k7 : PySem.W.keepIn K (.ref f7) = true)
(a8 : PySem.W.nsIn K mainGlobals "_law_next" = some (some (.ref f8))) (l8 : K.lookup f8 = some ⟨oc8, od8, .func (PySem.W.fnOf "_law_next" "_law_next" (defArgs s__law_next) (defBody s__law_next) (defScope s__law_next) .none kV8 dc8 pm8 an8 cd8 ct8), sl8⟩) (c8 : PySem.W.codeIn K cd8 "_law_next" = true) (k8 : PySem.W.keepIn K (.ref f8) = true)
(a9 : PySem.W.nsIn K mainGlobals "_law_same" = some (some (.ref f9))) (l9 : K.lookup f9 = some ⟨oc9, od9, .func (PySem.W.fnOf "_law_same" "_law_same" (defArgs s__law_same) (defBody s__law_same) (defScope s__law_same) .none kV9 dc9 pm9 an9 cd9 ct9), sl9⟩) (c9 : PySem.W.codeIn K cd9 "_law_same" = true) (k9 : PySem.W.keepIn K (.ref f9) = true)
(a10 : PySem.W.nsIn K mainGlobals "_law_sets" = some (some (.ref f10))) (l10 : K.lookup f10 = some ⟨oc10, od10, .func (PySem.W.fnOf "_law_sets" "_law_sets" (defArgs s__law_sets) (defBody s__law_sets) (defScope s__law_sets) .none kV10 dc10 pm10 an10 cd10 ct10), sl10⟩) (c10 : PySem.W.codeIn K cd10 "_law_sets" = true) (k10 : PySem.W.keepIn K (.ref f10) = true)
(a11 : PySem.W.nsIn K mainGlobals "_law_entries" = some (some (.ref f11))) (l11 : K.lookup f11 = some ⟨oc11, od11, .func (PySem.W.fnOf "_law_entries" "_law_entries" (defArgs s__law_entries) (defBody s__law_entries) (defScope s__law_entries) .none kV11 dc11 pm11 an11 cd11 ct11), sl11⟩) (c11 : PySem.W.codeIn K cd11 "_law_entries" = true) (k11 : PySem.W.keepIn K (.ref f11) = true)
(a12 : PySem.W.nsIn K mainGlobals "_law_true" = some (some (.ref f12))) (l12 : K.lookup f12 = some ⟨oc12, od12, .func (PySem.W.fnOf "_law_true" "_law_true" (defArgs s__law_true) (defBody s__law_true) (defScope s__law_true) .none kV12 dc12 pm12 an12 cd12 ct12), sl12⟩) (c12 : PySem.W.codeIn K cd12 "_law_true" = true) (k12 : PySem.W.keepIn K (.ref f12) = true)
(a13 : PySem.W.nsIn K mainGlobals "_law_loud" = some (some (.ref f13))) (l13 : K.lookup f13 = some ⟨oc13, od13, .func (PySem.W.fnOf "_law_loud" "_law_loud" (defArgs s__law_loud) (defBody s__law_loud) (defScope s__law_loud) .none kV13 dc13 pm13 an13 cd13 ct13), sl13⟩) (c13 : PySem.W.codeIn K cd13 "_law_loud" = true) (k13 : PySem.W.keepIn K (.ref f13) = true)
(a14 : PySem.W.nsIn K mainGlobals "law" = some (some (.ref f14))) (l14 : K.lookup f14 = some ⟨oc14, od14, .func (PySem.W.fnOf "law" "law" (defArgs s_law) (defBody s_law) (defScope s_law) .none kV14 dc14 pm14 an14 cd14 ct14), sl14⟩) (c14 : PySem.W.codeIn K cd14 "law" = true) (k14 : PySem.W.keepIn K (.ref f14) = true)
(z0 : PySem.W.nsIn K mainGlobals "len" = some none)
(z1 : PySem.W.nsIn K mainGlobals "sum" = some none)
(z2 : PySem.W.nsIn K mainGlobals "min" = some none)
(z3 : PySem.W.nsIn K mainGlobals "max" = some none)
(z4 : PySem.W.nsIn K mainGlobals "any" = some none)
(z5 : PySem.W.nsIn K mainGlobals "all" = some none)
(z6 : PySem.W.nsIn K mainGlobals "sorted" = some none)
(z7 : PySem.W.nsIn K mainGlobals "list" = some none)
(z8 : PySem.W.nsIn K mainGlobals "tuple" = some none)
(z9 : PySem.W.nsIn K mainGlobals "int" = some none)
(z10 : PySem.W.nsIn K mainGlobals "abs" = some none)
(z11 : PySem.W.nsIn K mainGlobals "isinstance" = some none)
(z12 : PySem.W.nsIn K mainGlobals "range" = some none)
(z13 : PySem.W.nsIn K mainGlobals "enumerate" = some none)
(z14 : PySem.W.nsIn K mainGlobals "zip" = some none)
(z15 : PySem.W.nsIn K mainGlobals "bool" = some none)
(z16 : PySem.W.nsIn K mainGlobals "str" = some none)
  : ∃ fd : FuncData, (∀ (s : Shared) (v : Value), BindsTo s fd ⟨[v], []⟩ [("script", v)]) ∧ ∀ base : Heap, K.In base → base.Ns mainGlobals mg → FnOk l.prog w K mg base CX0 40 fa fd ["script"] (spL K) := by
  have e := hfa.symm.trans (PySem.W.mg_of X G a14)
  cases e
  have F0 := fun_mk (st := s_is_true) l0 c0 k0
  have B0 : Binds K _ d_is_true.ps [] := F0.binds (ps := d_is_true.ps) fun _ _ _ _ _ _ us hl => match us, hl with | [_, _], _ => rfl
  have F1 := fun_mk (st := s_sets_of) l1 c1 k1
  have B1 : Binds K _ d_sets_of.ps [] := F1.binds (ps := d_sets_of.ps) fun _ _ _ _ _ _ us hl => match us, hl with | [_], _ => rfl
  have F2 := fun_mk (st := s_loud_sets) l2 c2 k2
  have B2 : Binds K _ d_loud_sets.ps [] := F2.binds (ps := d_loud_sets.ps) fun _ _ _ _ _ _ us hl => match us, hl with | [_, _, _], _ => rfl
  have F3 := fun_mk (st := s_least_noise) l3 c3 k3
  have B3 : Binds K _ d_least_noise.ps [] := F3.binds (ps := d_least_noise.ps) fun _ _ _ _ _ _ us hl => match us, hl with | [_, _, _], _ => rfl
  have F4 := fun_mk (st := s_can_all) l4 c4 k4
  have B4 : Binds K _ d_can_all.ps [] := F4.binds (ps := d_can_all.ps) fun _ _ _ _ _ _ us hl => match us, hl with | [_, _, _], _ => rfl
  have F5 := fun_mk (st := s_first_quarrel) l5 c5 k5
  have B5 : Binds K _ d_first_quarrel.ps [] := F5.binds (ps := d_first_quarrel.ps) fun _ _ _ _ _ _ us hl => match us, hl with | [_, _, _], _ => rfl
  have F6 := fun_mk (st := s_fewest_struck) l6 c6 k6
  have B6 : Binds K _ d_fewest_struck.ps [] := F6.binds (ps := d_fewest_struck.ps) fun _ _ _ _ _ _ us hl => match us, hl with | [_, _, _], _ => rfl
  have F7 := fun_mk (st := s__law_draw) l7 c7 k7
  have B7 : Binds K _ d__law_draw.ps [] := F7.binds (ps := d__law_draw.ps) fun _ _ _ _ _ _ us hl => match us, hl with | [_], _ => rfl
  have F8 := fun_mk (st := s__law_next) l8 c8 k8
  have B8 : Binds K _ d__law_next.ps [] := F8.binds (ps := d__law_next.ps) fun _ _ _ _ _ _ us hl => match us, hl with | [_, _], _ => rfl
  have F9 := fun_mk (st := s__law_same) l9 c9 k9
  have B9 : Binds K _ d__law_same.ps [] := F9.binds (ps := d__law_same.ps) fun _ _ _ _ _ _ us hl => match us, hl with | [_, _], _ => rfl
  have F10 := fun_mk (st := s__law_sets) l10 c10 k10
  have B10 : Binds K _ d__law_sets.ps [] := F10.binds (ps := d__law_sets.ps) fun _ _ _ _ _ _ us hl => match us, hl with | [_], _ => rfl
  have F11 := fun_mk (st := s__law_entries) l11 c11 k11
  have B11 : Binds K _ d__law_entries.ps [] := F11.binds (ps := d__law_entries.ps) fun _ _ _ _ _ _ us hl => match us, hl with | [_, _, _, _], _ => rfl
  have F12 := fun_mk (st := s__law_true) l12 c12 k12
  have B12 : Binds K _ d__law_true.ps [] := F12.binds (ps := d__law_true.ps) fun _ _ _ _ _ _ us hl => match us, hl with | [_, _], _ => rfl
  have F13 := fun_mk (st := s__law_loud) l13 c13 k13
  have B13 : Binds K _ d__law_loud.ps [] := F13.binds (ps := d__law_loud.ps) fun _ _ _ _ _ _ us hl => match us, hl with | [_, _, _], _ => rfl
  have F14 := fun_mk (st := s_law) l14 c14 k14
  have B14 : Binds K _ d_law.ps [] := F14.binds (ps := d_law.ps) fun _ _ _ _ _ _ us hl => match us, hl with | [_], _ => rfl
  have hds : ∀ (i : Nat) (d : Df), ds[i]? = some d → Is K mg d := fun i d hd => by
    have hm : d ∈ ds := List.mem_of_getElem? hd
    unfold ds at hm
    simp only [List.mem_cons, List.not_mem_nil, or_false] at hm
    rcases hm with rfl | rfl | rfl | rfl | rfl | rfl | rfl | rfl | rfl | rfl | rfl | rfl | rfl | rfl | rfl
    · exact ⟨_, _, PySem.W.mg_of X G a0, F0, B0⟩
    · exact ⟨_, _, PySem.W.mg_of X G a1, F1, B1⟩
    · exact ⟨_, _, PySem.W.mg_of X G a2, F2, B2⟩
    · exact ⟨_, _, PySem.W.mg_of X G a3, F3, B3⟩
    · exact ⟨_, _, PySem.W.mg_of X G a4, F4, B4⟩
    · exact ⟨_, _, PySem.W.mg_of X G a5, F5, B5⟩
    · exact ⟨_, _, PySem.W.mg_of X G a6, F6, B6⟩
    · exact ⟨_, _, PySem.W.mg_of X G a7, F7, B7⟩
    · exact ⟨_, _, PySem.W.mg_of X G a8, F8, B8⟩
    · exact ⟨_, _, PySem.W.mg_of X G a9, F9, B9⟩
    · exact ⟨_, _, PySem.W.mg_of X G a10, F10, B10⟩
    · exact ⟨_, _, PySem.W.mg_of X G a11, F11, B11⟩
    · exact ⟨_, _, PySem.W.mg_of X G a12, F12, B12⟩
    · exact ⟨_, _, PySem.W.mg_of X G a13, F13, B13⟩
    · exact ⟨_, _, PySem.W.mg_of X G a14, F14, B14⟩
  have hb : Bs mg := fun x hx => by
    unfold bltNames at hx
    simp only [List.mem_cons, List.not_mem_nil, or_false] at hx
    rcases hx with rfl | rfl | rfl | rfl | rfl | rfl | rfl | rfl | rfl | rfl | rfl | rfl | rfl | rfl | rfl | rfl | rfl
    · exact PySem.W.mg_none_of X G z0
    · exact PySem.W.mg_none_of X G z1
    · exact PySem.W.mg_none_of X G z2
    · exact PySem.W.mg_none_of X G z3
    · exact PySem.W.mg_none_of X G z4
    · exact PySem.W.mg_none_of X G z5
    · exact PySem.W.mg_none_of X G z6
    · exact PySem.W.mg_none_of X G z7
    · exact PySem.W.mg_none_of X G z8
    · exact PySem.W.mg_none_of X G z9
    · exact PySem.W.mg_none_of X G z10
    · exact PySem.W.mg_none_of X G z11
    · exact PySem.W.mg_none_of X G z12
    · exact PySem.W.mg_none_of X G z13
    · exact PySem.W.mg_none_of X G z14
    · exact PySem.W.mg_none_of X G z15
    · exact PySem.W.mg_none_of X G z16
  have hg : Gs K mg [] gl := fun i x hx => by simp [gl] at hx
  exact ⟨PySem.W.fnOf "law" "law" (defArgs s_law) (defBody s_law) (defScope s_law) .none kV14 dc14 pm14 an14 cd14 ct14, fun s v => .of_eq rfl, fun base _ _ =>
    law_ok (i := 14) (d := d_law) (Γ := []) (gl := gl) hds hb hg ag rfl rfl F14 (PySem.W.mg_of X G a14) law_holds⟩
end KL
open PySem PySem.W PyProof.Rows
set_option maxHeartbeats 0 in
theorem PySem.Challenge.cw_hoteldays_k49_whole_books_that_quarrel_holds : PySem.Challenge.rw_hoteldays_k49_whole_books_that_quarrel.Holds := by
  w_on; o_law; k_head; (case hw => w_witness2)
  k_fill
  refine L2.walk_of (l := PySem.Challenge.rw_hoteldays_k49_whole_books_that_quarrel) (n := 63) (k := 40) (x := "script") (CX := fun _ => L2.CX0) (sp := fun w => PV.spL _) rfl (by decide) rfl ⟨rfl, by decide, by decide⟩ (fun w h Y => PySem.W.kIn_of Y) ?F (fun _ _ a ns hl _ hS => ⟨a, ns, rfl, hS, hl, fun _ => rfl⟩) (fun _ _ _ _ _ h => h)
  case F =>
    intro w mg fa h KX G hmg
    refine' KL.all_mk KX G hmg ?a0 ?l0 ?c0 ?k0 ?a1 ?l1 ?c1 ?k1 ?a2 ?l2 ?c2 ?k2 ?a3 ?l3 ?c3 ?k3 ?a4 ?l4 ?c4 ?k4 ?a5 ?l5 ?c5 ?k5 ?a6 ?l6 ?c6 ?k6 ?a7 ?l7 ?c7 ?k7 ?a8 ?l8 ?c8 ?k8 ?a9 ?l9 ?c9 ?k9 ?a10 ?l10 ?c10 ?k10 ?a11 ?l11 ?c11 ?k11 ?a12 ?l12 ?c12 ?k12 ?a13 ?l13 ?c13 ?k13 ?a14 ?l14 ?c14 ?k14 ?z0 ?z1 ?z2 ?z3 ?z4 ?z5 ?z6 ?z7 ?z8 ?z9 ?z10 ?z11 ?z12 ?z13 ?z14 ?z15 ?z16
    (case a0 => k_is); (case l0 => k_is); (case c0 => k_is); (case k0 => k_is)
    (case a1 => k_is); (case l1 => k_is); (case c1 => k_is); (case k1 => k_is)
    (case a2 => k_is); (case l2 => k_is); (case c2 => k_is); (case k2 => k_is)
    (case a3 => k_is); (case l3 => k_is); (case c3 => k_is); (case k3 => k_is)
    (case a4 => k_is); (case l4 => k_is); (case c4 => k_is); (case k4 => k_is)
    (case a5 => k_is); (case l5 => k_is); (case c5 => k_is); (case k5 => k_is)
    (case a6 => k_is); (case l6 => k_is); (case c6 => k_is); (case k6 => k_is)
    (case a7 => k_is); (case l7 => k_is); (case c7 => k_is); (case k7 => k_is)
    (case a8 => k_is); (case l8 => k_is); (case c8 => k_is); (case k8 => k_is)
    (case a9 => k_is); (case l9 => k_is); (case c9 => k_is); (case k9 => k_is)
    (case a10 => k_is); (case l10 => k_is); (case c10 => k_is); (case k10 => k_is)
    (case a11 => k_is); (case l11 => k_is); (case c11 => k_is); (case k11 => k_is)
    (case a12 => k_is); (case l12 => k_is); (case c12 => k_is); (case k12 => k_is)
    (case a13 => k_is); (case l13 => k_is); (case c13 => k_is); (case k13 => k_is)
    (case a14 => k_is); (case l14 => k_is); (case c14 => k_is); (case k14 => k_is)
    (case z0 => k_is)
    (case z1 => k_is)
    (case z2 => k_is)
    (case z3 => k_is)
    (case z4 => k_is)
    (case z5 => k_is)
    (case z6 => k_is)
    (case z7 => k_is)
    (case z8 => k_is)
    (case z9 => k_is)
    (case z10 => k_is)
    (case z11 => k_is)
    (case z12 => k_is)
    (case z13 => k_is)
    (case z14 => k_is)
    (case z15 => k_is)
    (case z16 => k_is)

