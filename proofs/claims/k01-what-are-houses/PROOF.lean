import PyProof.Rows.All
import Wide.All
import OpenK.AllK
import Wide.FinOn
import HandS.Comp
import HandS.Ends
import HandS.Iter
import HandS.Text
import HandS.Words
import HandS.IsInst
import HandS.Zip
import KE.LtData
import KE.SortData
import HandS.Deep
import HandS.Wide
import HandS.EndBits
import HandS.TupAny
import HandS.Style
import PySem.Challenge.RW_poolbook_k01_what_are_houses

section
set_option Elab.async false
set_option linter.all false
set_option maxRecDepth 100000
/-! # The small language and its meaning over data -/
namespace Pb
open PySem

/-- what a slot holds: data that never changes, a list that this frame alone holds, a list that is lent to it -/
inductive Vl where
  | dat (d : PyData)
  | lst (ds : List PyData)
  | lnt (ds : List PyData)
abbrev Slt := Option Vl
abbrev Rho := List Slt
abbrev M (α : Type) := Rho → Option (α × Rho)

/-- what a run of the body comes to -/
inductive Out where
  | nx
  | rt (x : Vl)

inductive Ty where
  | int | bool | str | list | tuple
  deriving DecidableEq
inductive Bop where
  | add | sub | mul | fdiv | mod | pow
  deriving DecidableEq
inductive Cop where
  | eq | ne | lt | le | gt | ge | isin | notin
  deriving DecidableEq
inductive Bi where
  | len | all | any | tuple | list | str | sorted
  deriving DecidableEq

mutual
inductive Tg where
  | nm (i : Nat)
  | tp (ts : Tgs)
inductive Tgs where
  | nil
  | cons (t : Tg) (ts : Tgs)
end

mutual
inductive RE where
  | var (i : Nat)
  | int (n : Int)
  | str (s : Str)
  | bool (b : Bool)
  | none
  | glb (x : Str)
  | tup (es : REs)
  | lst (es : REs)
  | bin (o : Bop) (a b : RE)
  | neg (a : RE)
  | not (a : RE)
  | and (es : REs)
  | or (es : REs)
  | cmp (o : Cop) (a b : RE)
  | chain (o p : Cop) (a b c : RE)
  | isN (a : RE)
  | notN (a : RE)
  | ite (c a b : RE)
  | isi (a : RE) (t : Ty)
  | isiT (a : RE) (ts : List Ty)
  | call (f : Str) (es : REs)
  | callIo (f : Str) (i : Nat) (es : REs)
  | bi (b : Bi) (a : RE)
  | idx (a b : RE)
  | slTo (a b : RE)
  | slFrom (a b : RE)
  | rev (a : RE)
  | lc (elt : RE) (tg : Tg) (it : RI) (own : List Nat)
  | lcIf (elt : RE) (tg : Tg) (it : RI) (c : RE) (own : List Nat)
inductive REs where
  | nil
  | cons (e : RE) (es : REs)
inductive RI where
  | seq (e : RE)
  | rng (e : RE)
  | rng2 (a b : RE)
  | enm (e : RE)
  | zip (a b : RE)
end

mutual
inductive RS where
  | set (i : Nat) (e : RE)
  | setO (i : Nat) (e : RE)
  | unp (t : Tg) (e : RE)
  | setIx (i : Nat) (k e : RE)
  | app (i : Nat) (e : RE)
  | expr (e : RE)
  | ret (e : RE)
  | retO (e : RE)
  | iff (c : RE) (a b : RSs)
  | for (t : Tg) (it : RI) (b : RSs)
  | whl (c : RE) (b : RSs)
  | never
inductive RSs where
  | nil
  | cons (s : RS) (ss : RSs)
end

/-! ### small words -/
section
variable {α β : Type}
def ret (a : α) : M α := fun ρ => some (a, ρ)
def bnd (m : M α) (k : α → M β) : M β := fun ρ => match m ρ with
  | none => none
  | some p => k p.1 p.2
def fail : M α := fun _ => none
def ofO : Option α → M α
  | none => fail
  | some a => ret a
end
/-- read a slot; a list of one's own is one's own no more -/
def rd (i : Nat) : M PyData := fun ρ => match ρ[i]? with
  | some (some (.dat d)) => some (d, ρ)
  | some (some (.lst ds)) => some (.list ds, ρ.set i (some (.dat (.list ds))))
  | _ => none
/-- look at a slot -/
def pk (i : Nat) : M PyData := fun ρ => match ρ[i]? with
  | some (some (.dat d)) => some (d, ρ)
  | some (some (.lst ds)) => some (.list ds, ρ)
  | some (some (.lnt ds)) => some (.list ds, ρ)
  | _ => none
def put (i : Nat) (x : Vl) : M Unit := fun ρ => match ρ[i]? with
  | none => none
  | some (some (.lnt _)) => none
  | some _ => some ((), ρ.set i (some x))
/-- a list that may be changed -/
def ownL (i : Nat) : M (List PyData) := fun ρ => match ρ[i]? with
  | some (some (.lst ds)) => some (ds, ρ)
  | some (some (.lnt ds)) => some (ds, ρ)
  | _ => none
/-- it is changed -/
def wr (i : Nat) (es : List PyData) : M Unit := fun ρ => match ρ[i]? with
  | some (some (.lst _)) => some ((), ρ.set i (some (.lst es)))
  | some (some (.lnt _)) => some ((), ρ.set i (some (.lnt es)))
  | _ => none

/-! ### data -/
abbrev lim : Nat := 16777216
def asB : PyData → Option Bool
  | .bool b => some b
  | _ => none
def asBs : List PyData → Option (List Bool)
  | [] => some []
  | .bool b :: r => (asBs r).map (b :: ·)
  | _ :: _ => none
def asI : PyData → Option Int
  | .int i => some i
  | _ => none
def b2i (b : Bool) : Int := if b = true then 1 else 0
def opAdd : PyData → PyData → Option PyData
  | .int i, .int j => some (.int (i + j))
  | .bool b, .int j => some (.int (b2i b + j))
  | .list a, .list b => if a.length + b.length ≤ lim then some (.list (a ++ b)) else none
  | .tuple a, .tuple b => if a.length + b.length ≤ lim then some (.tuple (a ++ b)) else none
  | _, _ => none
def opBin : Bop → PyData → PyData → Option PyData
  | .add, x, y => opAdd x y
  | .sub, .int i, .int j => some (.int (i - j))
  | .sub, .bool b, .int j => some (.int (b2i b - j))
  | .mul, .int i, .int j => if i.natAbs < 2 ^ 64 ∨ j.natAbs < 2 ^ 64 then some (.int (i * j)) else none
  | .fdiv, .int i, .int j => if 0 < j ∧ j.natAbs < 1073741824 then some (.int (i / j)) else none
  | .mod, .int i, .int j => if 0 < j then some (.int (i % j)) else none
  | .pow, .int i, .int j => if 0 ≤ j ∧ j ≤ 1000000 ∧ i.natAbs < 2 ^ 64 then some (.int (i ^ j.toNat)) else none
  | _, _, _ => none
/-- one sign in a text -/
def inStr : PyData → PyData → Option Bool
  | .str x, .str y => match x.cps.toList with
    | [c] => some (decide (c ∈ y.cps.toList))
    | _ => none
  | _, _ => none
def eqD (x y : PyData) : Option Bool := if min x.depth y.depth ≤ 64 then some (PyData.eqv x y) else none
def inD (x : PyData) : PyData → Option Bool
  | .list ds => if min (PyData.depthAll ds) x.depth ≤ 64 then some (ds.any fun y => PyData.eqv y x) else none
  | .tuple ds => if min (PyData.depthAll ds) x.depth ≤ 64 then some (ds.any fun y => PyData.eqv y x) else none
  | .str y => inStr x (.str y)
  | _ => none
def ltD (x y : PyData) : Option Bool := match x, y with
  | .int i, .int j => some (decide (i < j))
  | .str a, .str b => some (decide (a.cps.toList < b.cps.toList))
  | .tuple a, .tuple b => if W.alikeAll a b = true ∧ min (PyData.depth (.tuple a)) (PyData.depth (.tuple b)) ≤ 64 then some (W.dataLt (.tuple a) (.tuple b)) else none
  | _, _ => none
def leD (x y : PyData) : Option Bool := match x, y with
  | .int i, .int j => some (decide (i ≤ j))
  | .str a, .str b => some (!decide (b.cps.toList < a.cps.toList))
  | _, _ => none
def gtD (x y : PyData) : Option Bool := match x, y with
  | .int i, .int j => some (decide (j < i))
  | .str a, .str b => some (decide (b.cps.toList < a.cps.toList))
  | _, _ => none
def geD (x y : PyData) : Option Bool := match x, y with
  | .int i, .int j => some (decide (j ≤ i))
  | .str a, .str b => some (!decide (a.cps.toList < b.cps.toList))
  | _, _ => none
def opCmp : Cop → PyData → PyData → Option Bool
  | .eq, x, y => eqD x y
  | .ne, x, y => (eqD x y).map (!·)
  | .lt, x, y => ltD x y
  | .le, x, y => leD x y
  | .gt, x, y => gtD x y
  | .ge, x, y => geD x y
  | .isin, x, y => inD x y
  | .notin, x, y => (inD x y).map (!·)
def isTy : Ty → PyData → Bool
  | .int, .int _ => true
  | .int, .bool _ => true
  | .bool, .bool _ => true
  | .str, .str _ => true
  | .list, .list _ => true
  | .tuple, .tuple _ => true
  | _, _ => false
/-- is None -/
def isNone : PyData → Bool
  | .none => true
  | _ => false
/-- dicts are no data that isinstance is asked of here -/
def plainB : PyData → Bool
  | .dict _ => false
  | _ => true
def sortOk (ds : List PyData) : Bool :=
  ds.all (fun x => ds.all fun y => W.alike x y) && (ds.all (fun d => match d with | .tuple (_ :: _) => true | _ => false) || ds.all (fun d => match d with | .none => false | .tuple _ => false | _ => true))
    && ds.all fun d => decide (d.depth ≤ 64)
def sortD (ds : List PyData) : List PyData := ds.mergeSort fun a b => !W.dataLt b a
def opBi : Bi → PyData → Option PyData
  | .len, .list ds => some (.int ds.length)
  | .len, .tuple ds => some (.int ds.length)
  | .len, .str x => if x.length ≤ lim then some (.int x.length) else none
  | .all, .list ds => (asBs ds).map fun bs => .bool (bs.all id)
  | .any, .list ds => (asBs ds).map fun bs => .bool (bs.any id)
  | .tuple, .list ds => some (.tuple ds)
  | .tuple, .tuple ds => some (.tuple ds)
  | .list, .list ds => some (.list ds)
  | .list, .tuple ds => some (.list ds)
  | .str, .int i => if i.natAbs.log2 < 1920 then some (.str (toString i)) else none
  | .str, .bool b => some (.str (if b then "True" else "False"))
  | .sorted, .list ds => if sortOk ds = true ∧ ds.length ≤ lim then some (.list (sortD ds)) else none
  | _, _ => none
def opIdx (x y : PyData) : Option PyData := match x, y with
  | .list ds, .int i => L2.atI ds i
  | .tuple ds, .int i => L2.atI ds i
  | _, _ => none
def cutD (xs : List PyData) (lo hi : Option Int) : List PyData := (xs.drop (HT.sIx xs.length 0 lo)).take (HT.sIx xs.length xs.length hi - HT.sIx xs.length 0 lo)
def opSl (lo hi : Option Int) : PyData → Option PyData
  | .list ds => some (.list (cutD ds lo hi))
  | .tuple ds => some (.tuple (cutD ds lo hi))
  | _ => none
def opRev : PyData → Option PyData
  | .list ds => some (.list ds.reverse)
  | .tuple ds => some (.tuple ds.reverse)
  | _ => none
def rngL (lo : Int) : Nat → List PyData
  | 0 => []
  | n + 1 => .int lo :: rngL (lo + 1) n
def enmL : Nat → List PyData → List PyData
  | _, [] => []
  | k, d :: ds => .tuple [.int k, d] :: enmL (k + 1) ds
def zipL : List PyData → List PyData → List PyData
  | x :: xs, y :: ys => .tuple [x, y] :: zipL xs ys
  | _, _ => []
def seqOf : PyData → Option (List PyData)
  | .list ds => some ds
  | .tuple ds => some ds
  | .str x => if x.length ≤ lim then some (x.cps.toList.map fun c => .str ⟨#[c]⟩) else none
  | _ => none
/-- zip takes two lists or two tuples -/
def zipOf : PyData → PyData → Option (List PyData)
  | .list a, .list b => some (zipL a b)
  | .tuple a, .tuple b => some (zipL a b)
  | _, _ => none
def enmOf : PyData → Option (List PyData)
  | .list a => some (enmL 0 a)
  | _ => none
def rngOf (i j : Int) : Option (List PyData) := if i.natAbs < 2 ^ 62 ∧ j.natAbs < 2 ^ 62 ∧ (j - i).toNat ≤ lim then some (rngL i (j - i).toNat) else none

/-! ### targets, loops -/
mutual
def bindT : Tg → PyData → M Unit
  | .nm i, d => put i (.dat d)
  | .tp ts, d => match d with
    | .tuple ds => bindTs ts ds
    | _ => fail
def bindTs : Tgs → List PyData → M Unit
  | .nil, [] => ret ()
  | .cons t ts, d :: ds => bnd (bindT t d) fun _ => bindTs ts ds
  | _, _ => fail
end
/-- for: the body b at each item -/
def forL (b : PyData → M Out) : List PyData → M Out
  | [] => ret .nx
  | d :: ds => bnd (b d) fun
    | .nx => forL b ds
    | .rt x => ret (.rt x)
def whlL (c : M Bool) (b : M Out) : Nat → M Out
  | 0 => fail
  | n + 1 => bnd c fun k => if k = true then bnd b fun
      | .nx => whlL c b n
      | .rt x => ret (.rt x)
    else ret .nx
/-- a comprehension: the block's own slots empty at each turn -/
def wipeR (ρ : Rho) : List Nat → Rho
  | [] => ρ
  | v :: vs => (wipeR ρ vs).set v none
def lcL (b : PyData → M (Option PyData)) (own : List Nat) : List PyData → M (List PyData)
  | [] => ret []
  | d :: ds => fun ρ => match b d ρ with
    | none => none
    | some (o, ρ') => match lcL b own ds (wipeR ρ' own) with
      | none => none
      | some (r, ρ'') => some (match o with | none => r | some y => y :: r, ρ'')
/-- no slot of these is one's own -/
def noOwn (ρ : Rho) (own : List Nat) : Bool := own.all fun i => match ρ[i]? with
  | some none => true
  | some (some (.dat _)) => true
  | _ => false
def backR (ρ : Rho) (ρ' : Rho) : List Nat → Rho
  | [] => ρ'
  | v :: vs => (backR ρ ρ' vs).set v (ρ[v]?.join)
def lcM (b : PyData → M (Option PyData)) (own : List Nat) (ds : List PyData) : M PyData := fun ρ =>
  if noOwn ρ own = true then match lcL b own ds (wipeR ρ own) with
    | none => none
    | some (r, ρ') => some (.list r, backR ρ ρ' own)
  else none

/-- one turn of a comprehension: target, test, element -/
def lcB (mt : PyData → M Unit) (mc me : M PyData) : PyData → M (Option PyData) := fun d => bnd (mt d) fun _ => bnd mc fun k => bnd (ofO (asB k)) fun k =>
  if k = true then bnd me fun y => ret (some y) else ret none
/-! ### the meaning -/
structure Ctx where
  fn : Str → List Vl → Option (Vl × Slt)
  gl : Str → Option PyData
def RE.isVar : RE → Option Nat
  | .var i => some i
  | _ => Option.none
/-- len alone looks -/
def biVar (b : Bi) (o : Option Nat) : Option Nat := match b with
  | .len => o
  | _ => Option.none
/-- left side first; a bare name is looked at last -/
def two (o : Option Nat) (a b : M PyData) (f : PyData → PyData → M PyData) : M PyData := match o with
  | some i => bnd (pk i) fun _ => bnd b fun y => bnd (pk i) fun x => f x y
  | none => bnd a fun x => bnd b fun y => f x y
def pkO (o : Option Nat) (a : M PyData) : M PyData := match o with
  | some i => pk i
  | none => a
abbrev boolM (o : Option Bool) : M PyData := ofO (o.map .bool)
def doCall (C : Ctx) (f : Str) (ds : List PyData) : M PyData := match C.fn f (ds.map .dat) with
  | some (.dat d, _) => ret d
  | some (.lst ds, _) => ret (.list ds)
  | _ => fail
def doIo (C : Ctx) (f : Str) (i : Nat) (ds : List PyData) : M PyData := bnd (ownL i) fun own =>
  match C.fn f (.lnt own :: ds.map .dat) with
  | some (.dat d, some (.lnt own')) => bnd (wr i own') fun _ => ret d
  | _ => fail
mutual
def ev (C : Ctx) : RE → M PyData
  | .var i => rd i
  | .int n => ret (.int n)
  | .str s => ret (.str s)
  | .bool b => ret (.bool b)
  | .none => ret .none
  | .glb x => ofO (C.gl x)
  | .tup es => bnd (evs C es) fun ds => if ds.length ≤ lim then ret (.tuple ds) else fail
  | .lst es => bnd (evs C es) fun ds => if ds.length ≤ lim then ret (.list ds) else fail
  | .bin o a b => bnd (ev C a) fun x => bnd (ev C b) fun y => ofO (opBin o x y)
  | .neg a => bnd (ev C a) fun x => ofO ((asI x).map fun i => .int (-i))
  | .not a => bnd (ev C a) fun x => ofO ((asB x).map fun b => .bool (!b))
  | .and es => evAnd C es
  | .or es => evOr C es
  | .cmp o a b => two a.isVar (ev C a) (pkO b.isVar (ev C b)) fun x y => boolM (opCmp o x y)
  | .chain o p a b c => bnd (ev C a) fun x => bnd (ev C b) fun y => bnd (ofO (opCmp o x y)) fun k =>
      if k = true then bnd (ev C c) fun z => boolM (opCmp p y z) else ret (.bool false)
  | .isN a => bnd (ev C a) fun x => ret (.bool (isNone x))
  | .notN a => bnd (ev C a) fun x => ret (.bool (!isNone x))
  | .ite c a b => bnd (ev C c) fun k => bnd (ofO (asB k)) fun k => if k = true then ev C a else ev C b
  | .isi a t => bnd (ev C a) fun x => if plainB x = true then ret (.bool (isTy t x)) else fail
  | .isiT a ts => bnd (ev C a) fun x => if plainB x = true then ret (.bool (ts.any fun t => isTy t x)) else fail
  | .call f es => bnd (evs C es) fun ds => doCall C f ds
  | .callIo f i es => bnd (pk i) fun _ => bnd (evs C es) fun ds => doIo C f i ds
  | .bi b a => bnd (pkO (biVar b a.isVar) (ev C a)) fun x => ofO (opBi b x)
  | .idx a b => two a.isVar (ev C a) (ev C b) fun x y => ofO (opIdx x y)
  | .slTo a b => bnd (ev C a) fun x => bnd (ev C b) fun y => ofO ((asI y).bind fun j => opSl none (some j) x)
  | .slFrom a b => bnd (ev C a) fun x => bnd (ev C b) fun y => ofO ((asI y).bind fun j => opSl (some j) none x)
  | .rev a => bnd (ev C a) fun x => ofO (opRev x)
  | .lc e t it own => bnd (evI C it) fun ds => lcM (lcB (bindT t) (ret (.bool true)) (ev C e)) own ds
  | .lcIf e t it c own => bnd (evI C it) fun ds => lcM (lcB (bindT t) (ev C c) (ev C e)) own ds
def evs (C : Ctx) : REs → M (List PyData)
  | .nil => ret []
  | .cons e es => bnd (ev C e) fun d => bnd (evs C es) fun ds => ret (d :: ds)
def evAnd (C : Ctx) : REs → M PyData
  | .nil => fail
  | .cons e .nil => bnd (ev C e) fun x => ofO ((asB x).map .bool)
  | .cons e es => bnd (ev C e) fun x => bnd (ofO (asB x)) fun b => if b = true then evAnd C es else ret (.bool false)
def evOr (C : Ctx) : REs → M PyData
  | .nil => fail
  | .cons e .nil => bnd (ev C e) fun x => ofO ((asB x).map .bool)
  | .cons e es => bnd (ev C e) fun x => bnd (ofO (asB x)) fun b => if b = true then ret (.bool true) else evOr C es
def evI (C : Ctx) : RI → M (List PyData)
  | .seq e => bnd (ev C e) fun x => ofO (seqOf x)
  | .rng e => bnd (ev C e) fun x => ofO ((asI x).bind fun j => rngOf 0 j)
  | .rng2 a b => bnd (ev C a) fun x => bnd (ev C b) fun y => ofO ((asI x).bind fun i => (asI y).bind fun j => rngOf i j)
  | .enm e => bnd (ev C e) fun x => ofO (enmOf x)
  | .zip a b => bnd (ev C a) fun x => bnd (ev C b) fun y => ofO (zipOf x y)
end
/-- a value that a name takes as its own -/
def evO (C : Ctx) : RE → M Vl
  | .call f es => bnd (evs C es) fun ds => match C.fn f (ds.map .dat) with
    | some (.lst ds, _) => ret (.lst ds)
    | _ => fail
  | e => bnd (ev C e) fun
    | .list ds => ret (.lst ds)
    | _ => fail
/-- turns of a while at most -/
def turns : Nat := 5000
mutual
def ex (C : Ctx) : RS → M Out
  | .set i e => bnd (ev C e) fun d => bnd (put i (.dat d)) fun _ => ret .nx
  | .setO i e => bnd (evO C e) fun x => bnd (put i x) fun _ => ret .nx
  | .unp t e => bnd (ev C e) fun d => bnd (bindT t d) fun _ => ret .nx
  | .setIx i k e => bnd (ev C e) fun d => bnd (ownL i) fun _ => bnd (ev C k) fun y => bnd (ownL i) fun ds => bnd (ofO ((asI y).bind fun j => L2.ixN ds.length j)) fun n =>
      bnd (wr i (ds.set n d)) fun _ => ret .nx
  | .app i e => bnd (ownL i) fun _ => bnd (ev C e) fun d => bnd (ownL i) fun ds => if ds.length < lim then bnd (wr i (ds ++ [d])) fun _ => ret .nx else fail
  | .expr e => bnd (ev C e) fun _ => ret .nx
  | .ret e => bnd (ev C e) fun d => ret (.rt (.dat d))
  | .retO e => bnd (evO C e) fun x => ret (.rt x)
  | .iff c a b => bnd (ev C c) fun k => bnd (ofO (asB k)) fun k => if k = true then exs C a else exs C b
  | .for t it b => bnd (evI C it) fun ds => forL (fun d => bnd (bindT t d) fun _ => exs C b) ds
  | .whl c b => whlL (bnd (ev C c) fun k => ofO (asB k)) (exs C b) turns
  | .never => fail
def exs (C : Ctx) : RSs → M Out
  | .nil => ret .nx
  | .cons s ss => bnd (ex C s) fun
    | .nx => exs C ss
    | .rt x => ret (.rt x)
end

/-! ### the whole program -/
structure Fn where
  ps : Nat
  sl : Nat
  io : Bool
  body : RSs
def startR (f : Fn) (as : List Vl) : Rho := as.map some ++ List.replicate (f.sl - as.length) none
/-- slot 0 behind the body, where it is the caller's -/
def backIo (io : Bool) (ρ : Rho) : Option Slt := match io, ρ with
  | true, some (.lnt ds) :: _ => some (some (.lnt ds))
  | true, _ => none
  | false, _ => some none
def runFn (C : Ctx) (f : Fn) (as : List Vl) : Option (Vl × Slt) := if as.length = f.ps then match exs C f.body (startR f as) with
    | some (.rt x, ρ) => (backIo f.io ρ).map fun s => (x, s)
    | some (.nx, ρ) => (backIo f.io ρ).map fun s => (.dat .none, s)
    | none => none
  else none
structure Prg where
  fns : Str → Option Fn
  gls : Str → Option PyData
def Prg.at (P : Prg) : Nat → Ctx
  | 0 => ⟨fun _ _ => none, P.gls⟩
  | k + 1 => ⟨fun f as => (P.fns f).bind fun d => runFn (P.at k) d as, P.gls⟩
end Pb
end

section
set_option Elab.async false
set_option linter.all false
set_option maxRecDepth 100000
set_option maxHeartbeats 1000000
/-! # How data lies in the heap -/
namespace Pb
open PySem PySem.Spec L2

theorem lim_eq : lim = sizeLine := by rw [sizeLine_eq]
theorem lim_le {n : Nat} (h : n ≤ lim) : n ≤ sizeLine := by rw [← lim_eq]; exact h
theorem lim_lt {n : Nat} (h : n < lim) : n < sizeLine := by rw [← lim_eq]; exact h

mutual
inductive Dat (K : PySem.W.Frag) (F : Hp) : V → PyData → Prop
  | non : Dat K F .non .none
  | bl (b : Bool) : Dat K F (.bl b) (.bool b)
  | int (i : Int) : Dat K F (.int i) (.int i)
  | str (x : Str) : PyData.strOk x = true → Dat K F (.str x) (.str x)
  | lst {a : Addr} {xs : List V} {ds : List PyData} : SqL K F a xs → xs.length ≤ lim → Dats K F xs ds → Dat K F (.ref a) (.list ds)
  | tup {a : Addr} {xs : List V} {ds : List PyData} : SqT K F a xs → xs.length ≤ lim → Dats K F xs ds → Dat K F (.ref a) (.tuple ds)
inductive Dats (K : PySem.W.Frag) (F : Hp) : List V → List PyData → Prop
  | nil : Dats K F [] []
  | cons {v : V} {vs : List V} {d : PyData} {ds : List PyData} : Dat K F v d → Dats K F vs ds → Dats K F (v :: vs) (d :: ds)
end

section
variable {K : PySem.W.Frag} {F F' H H' : Hp}
theorem sameT {a : Addr} {xs : List V} (e : Same F F') (h : SqT K F a xs) : SqT K F' a xs := by
  rcases h with (h | ⟨o, h⟩) | h
  · exact .inl (.inl (e _ _ h))
  · exact .inl (.inr ⟨o, e _ _ h⟩)
  · exact .inr h
mutual
theorem Dat.mono (e : Same F F') : ∀ (d : PyData) (v : V), Dat K F v d → Dat K F' v d
  | .none, _, h => by cases h; exact .non
  | .bool _, _, h => by cases h; exact .bl _
  | .int _, _, h => by cases h; exact .int _
  | .str _, _, h => by cases h with | str _ q => exact .str _ q
  | .list ds, _, h => by cases h with | lst a b c => exact .lst (e.seq a) b (Dats.mono e ds _ c)
  | .tuple ds, _, h => by cases h with | tup a b c => exact .tup (sameT e a) b (Dats.mono e ds _ c)
  | .dict _, _, h => by cases h
theorem Dats.mono (e : Same F F') : ∀ (ds : List PyData) (vs : List V), Dats K F vs ds → Dats K F' vs ds
  | [], _, h => by cases h; exact .nil
  | d :: ds, _, h => by cases h with | cons a b => exact .cons (Dat.mono e d _ a) (Dats.mono e ds _ b)
end
mutual
theorem Dat.dp : ∀ (d : PyData) (v : V), Dat K F v d → Dp K F v d
  | .none, _, h => by cases h; exact .non
  | .bool _, _, h => by cases h; exact .bl _
  | .int _, _, h => by cases h; exact .int _
  | .str _, _, h => by cases h with | str _ q => exact .str _
  | .list ds, _, h => by cases h with | lst a b c => exact .lst a (Dats.dp ds _ c)
  | .tuple ds, _, h => by cases h with | tup a b c => exact .tup a (Dats.dp ds _ c)
  | .dict _, _, h => by cases h
theorem Dats.dp : ∀ (ds : List PyData) (vs : List V), Dats K F vs ds → DpAll K F vs ds
  | [], _, h => by cases h; exact .nil
  | d :: ds, _, h => by cases h with | cons a b => exact .cons (Dat.dp d _ a) (Dats.dp ds _ b)
end
mutual
theorem Dat.lay : ∀ (d : PyData) (v : V), Dat K F v d → d.canLay0 = true
  | .none, _, h => by simp only [PyData.canLay0]
  | .bool _, _, h => by simp only [PyData.canLay0]
  | .int _, _, h => by simp only [PyData.canLay0]
  | .str _, _, h => by cases h with | str _ q => simpa only [PyData.canLay0] using q
  | .list ds, _, h => by cases h with | lst a b c => simpa only [PyData.canLay0] using Dats.lay ds _ c
  | .tuple ds, _, h => by cases h with | tup a b c => simpa only [PyData.canLay0] using Dats.lay ds _ c
  | .dict _, _, h => by cases h
theorem Dats.lay : ∀ (ds : List PyData) (vs : List V), Dats K F vs ds → PyData.canLayAll0 ds = true
  | [], _, h => by simp only [PyData.canLayAll0]
  | d :: ds, _, h => by
    cases h with
    | cons a b =>
      simp only [PyData.canLayAll0, Bool.and_eq_true]
      exact ⟨Dat.lay d _ a, Dats.lay ds _ b⟩
end
theorem Dats.len : ∀ {ds : List PyData} {vs : List V}, Dats K F vs ds → vs.length = ds.length
  | [], _, h => by cases h; rfl
  | d :: ds, _, h => by cases h with | cons a b => simp only [List.length_cons, Dats.len b]
theorem Dats.get : ∀ {ds : List PyData} {vs : List V} {i : Nat} {d : PyData}, Dats K F vs ds → ds[i]? = some d → ∃ v, vs[i]? = some v ∧ Dat K F v d
  | [], _, _, _, h, e => by simp at e
  | d :: ds, _, 0, _, h, e => by
    cases h with
    | cons a b =>
      simp at e
      subst e
      exact ⟨_, rfl, a⟩
  | d :: ds, _, i + 1, _, h, e => by
    cases h with
    | cons a b =>
      obtain ⟨v, q, r⟩ := Dats.get (i := i) b (by simpa using e)
      exact ⟨v, by simpa using q, r⟩
theorem Dats.app : ∀ {ds es : List PyData} {vs ws : List V}, Dats K F vs ds → Dats K F ws es → Dats K F (vs ++ ws) (ds ++ es)
  | [], _, _, _, h, q => by cases h; exact q
  | d :: ds, _, _, _, h, q => by cases h with | cons a b => exact .cons a (Dats.app b q)
theorem Dats.take : ∀ {ds : List PyData} {vs : List V} (n : Nat), Dats K F vs ds → Dats K F (vs.take n) (ds.take n)
  | _, _, 0, _ => by simpa using Dats.nil
  | [], _, n + 1, h => by cases h; exact .nil
  | d :: ds, _, n + 1, h => by cases h with | cons a b => exact .cons a (Dats.take n b)
theorem Dats.drop : ∀ {ds : List PyData} {vs : List V} (n : Nat), Dats K F vs ds → Dats K F (vs.drop n) (ds.drop n)
  | _, _, 0, h => by simpa using h
  | [], _, n + 1, h => by cases h; exact .nil
  | d :: ds, _, n + 1, h => by cases h with | cons a b => exact Dats.drop n b
theorem Dats.set : ∀ {ds : List PyData} {vs : List V} {v : V} {d : PyData} (n : Nat), Dats K F vs ds → Dat K F v d → Dats K F (vs.set n v) (ds.set n d)
  | [], _, _, _, n, h, q => by cases h; exact .nil
  | e :: ds, _, _, _, 0, h, q => by cases h with | cons a b => exact .cons q b
  | e :: ds, _, _, _, n + 1, h, q => by cases h with | cons a b => exact .cons a (Dats.set n b q)
theorem Dats.rev : ∀ {ds : List PyData} {vs : List V}, Dats K F vs ds → Dats K F vs.reverse ds.reverse
  | [], _, h => by cases h; exact .nil
  | d :: ds, _, h => by
    cases h with
    | cons a b =>
      rw [List.reverse_cons, List.reverse_cons]
      exact Dats.app (Dats.rev b) (.cons a .nil)
end

/-! ### frames -/
def Vl.own : Vl → Bool
  | .dat _ => false
  | _ => true
def LstAt (K : PySem.W.Frag) (F H : Hp) (v : V) (ds : List PyData) : Prop := ∃ a xs, v = .ref a ∧ F a = none ∧ H a = some (.lst xs) ∧ xs.length ≤ lim ∧ Dats K F xs ds
def RepV (K : PySem.W.Frag) (F H : Hp) (v : V) : Vl → Prop
  | .dat d => Dat K F v d
  | .lst ds => LstAt K F H v ds
  | .lnt ds => LstAt K F H v ds
/-- the entry of a frame: the heap, what never changes, the list that is lent to it; and what is kept aside for now -/
structure Bs where
  H0 : Hp
  F0 : Hp
  ps : List Addr
  ex : List (Addr × HO)
/-- slot i holds a list that may be changed, at a -/
def Mine (ρ : Rho) (σ : St) (i : Nat) (a : Addr) : Prop := (∃ x, ρ[i]? = some (some x) ∧ x.own = true) ∧ σ[i]? = some (some (.ref a))
structure Rp (K : PySem.W.Frag) (B : Bs) (ρ : Rho) (σ : St) (F H : Hp) : Prop where
  len : ρ.length = σ.length
  sub : Same F H
  ext : Same B.F0 F
  dom : ∀ a o, F a = some o → (∃ o', B.F0 a = some o') ∨ B.H0 a = none
  keep : ∀ a o, B.H0 a = some o → a ∉ B.ps → H a = some o
  live : ∀ a o, B.H0 a = some o → ∃ o', H a = some o'
  slot : ∀ (i : Nat) (x : Vl), ρ[i]? = some (some x) → ∃ v, σ[i]? = some (some v) ∧ RepV K F H v x
  mine : ∀ (i : Nat) (ds : List PyData) (a : Addr), ρ[i]? = some (some (.lst ds)) → σ[i]? = some (some (.ref a)) → B.H0 a = none
  lent : ∀ (i : Nat) (ds : List PyData) (a : Addr), ρ[i]? = some (some (.lnt ds)) → σ[i]? = some (some (.ref a)) → B.ps = [a]
  inj : ∀ (i j : Nat) (a : Addr), Mine ρ σ i a → Mine ρ σ j a → i = j
  prot : ∀ p ∈ B.ex, H p.1 = some p.2 ∧ F p.1 = none ∧ B.H0 p.1 = none ∧ ∀ j, ¬ Mine ρ σ j p.1

section
variable {K : PySem.W.Frag} {B : Bs} {ρ : Rho} {σ : St} {F F' H H' : Hp}
theorem upd_none {p : Addr} {o : HO} (h : F p = none) : Same F (upd F p o) := fun b x e => by
  rw [upd_ne (ne_of_none e h)]
  exact e
theorem RepV.at {v : V} {x : Vl} {a : Addr} (h : RepV K F H v x) (o : x.own = true) (e : v = .ref a) : F a = none ∧ ∃ u, H a = some u := by
  cases x with
  | dat d => cases o
  | lst ds =>
    obtain ⟨b, xs, rfl, h1, h2, _⟩ := h
    cases e
    exact ⟨h1, _, h2⟩
  | lnt ds =>
    obtain ⟨b, xs, rfl, h1, h2, _⟩ := h
    cases e
    exact ⟨h1, _, h2⟩
theorem Rp.own_at (R : Rp K B ρ σ F H) {i : Nat} {a : Addr} (m : Mine ρ σ i a) : F a = none ∧ ∃ u, H a = some u := by
  obtain ⟨⟨x, h1, h2⟩, h3⟩ := m
  obtain ⟨v, q, r⟩ := R.slot i x h1
  rw [h3] at q
  cases q
  exact r.at h2 rfl
theorem Rp.own_in (R : Rp K B ρ σ F H) {i : Nat} {a : Addr} (m : Mine ρ σ i a) : a ∈ B.ps ∨ B.H0 a = none := by
  obtain ⟨⟨x, h1, h2⟩, h3⟩ := m
  cases x with
  | dat d => cases h2
  | lst ds => exact .inr (R.mine i ds a h1 h3)
  | lnt ds => exact .inl (by rw [R.lent i ds a h1 h3]; exact List.mem_singleton.mpr rfl)
theorem RepV.mono {v : V} {x : Vl} (h : RepV K F H v x) (sF : Same F F') (hh : ∀ a, x.own = true → v = .ref a → F' a = none ∧ H' a = H a) : RepV K F' H' v x := by
  cases x with
  | dat d => exact Dat.mono sF d v h
  | lst ds =>
    obtain ⟨a, xs, rfl, h1, h2, h3, h4⟩ := h
    obtain ⟨q1, q2⟩ := hh a rfl rfl
    exact ⟨a, xs, rfl, q1, q2.trans h2, h3, Dats.mono sF ds xs h4⟩
  | lnt ds =>
    obtain ⟨a, xs, rfl, h1, h2, h3, h4⟩ := h
    obtain ⟨q1, q2⟩ := hh a rfl rfl
    exact ⟨a, xs, rfl, q1, q2.trans h2, h3, Dats.mono sF ds xs h4⟩
/-- what is frozen and what is held grow, the lists of one's own stay -/
theorem Rp.grow (R : Rp K B ρ σ F H) (sF : Same F F') (sub : Same F' H') (sH : Same H H') (new : ∀ a o, F' a = some o → (∃ o', F a = some o') ∨ H a = none) : Rp K B ρ σ F' H' where
  len := R.len
  sub := sub
  ext := R.ext.trans sF
  dom := fun a o e => by
    rcases new a o e with ⟨o', q⟩ | q
    · exact R.dom a o' q
    · refine .inr ?_
      cases z : B.H0 a with
      | none => rfl
      | some u =>
        obtain ⟨u', r⟩ := R.live a u z
        rw [q] at r
        cases r
  keep := fun a o e n => sH a o (R.keep a o e n)
  live := fun a o e => let ⟨o', q⟩ := R.live a o e; ⟨o', sH a o' q⟩
  slot := fun i x e => by
    obtain ⟨v, q, r⟩ := R.slot i x e
    refine ⟨v, q, r.mono sF fun a ho hv => ?_⟩
    subst hv
    obtain ⟨h1, u, h2⟩ := r.at ho rfl
    refine ⟨?_, by rw [h2]; exact sH a u h2⟩
    cases z : F' a with
    | none => rfl
    | some o =>
      rcases new a o z with ⟨o', w⟩ | w
      · rw [h1] at w; cases w
      · rw [h2] at w; cases w
  mine := R.mine
  lent := R.lent
  inj := R.inj
  prot := fun p hp => by
    obtain ⟨h1, h2, h3, h4⟩ := R.prot p hp
    refine ⟨sH _ _ h1, ?_, h3, h4⟩
    cases z : F' p.1 with
    | none => rfl
    | some o =>
      rcases new p.1 o z with ⟨o', w⟩ | w
      · rw [h2] at w; cases w
      · rw [h1] at w; cases w
/-- a new object, frozen -/
theorem Rp.new (R : Rp K B ρ σ F H) {p : Addr} {o : HO} (hp : H p = none) : Rp K B ρ σ (upd F p o) (upd H p o) :=
  R.grow (upd_none (R.sub.free hp)) (fun a u e => by
    by_cases h : a = p
    · subst h; rw [upd_same] at e ⊢; exact e
    · rw [upd_ne h] at e ⊢; exact R.sub a u e) (upd_none hp) fun a u e => by
      by_cases h : a = p
      · subst h; exact .inr hp
      · rw [upd_ne h] at e; exact .inl ⟨u, e⟩
/-- a new object, not frozen -/
theorem Rp.newH (R : Rp K B ρ σ F H) {p : Addr} {o : HO} (hp : H p = none) : Rp K B ρ σ F (upd H p o) :=
  R.grow (Same.refl F) (fun a u e => upd_none hp a u (R.sub a u e)) (upd_none hp) fun a u e => .inl ⟨u, e⟩
/-- .. and then frozen -/
theorem Rp.freezeNew (R : Rp K B ρ σ F H) {p : Addr} {o : HO} (hp : H p = some o) (hF : F p = none) (h0 : B.H0 p = none) (no : ∀ j, ¬ Mine ρ σ j p) (nx : ∀ q ∈ B.ex, q.1 ≠ p) : Rp K B ρ σ (upd F p o) H where
  len := R.len
  sub := fun a u e => by
    by_cases h : a = p
    · subst h; rw [upd_same] at e; rw [← e]; exact hp
    · rw [upd_ne h] at e; exact R.sub a u e
  ext := R.ext.trans (upd_none hF)
  dom := fun a u e => by
    by_cases h : a = p
    · subst h; exact .inr h0
    · rw [upd_ne h] at e; exact R.dom a u e
  keep := R.keep
  live := R.live
  slot := fun i x e => by
    obtain ⟨v, q, r⟩ := R.slot i x e
    refine ⟨v, q, r.mono (upd_none hF) fun a ho hv => ⟨?_, rfl⟩⟩
    subst hv
    have ne : a ≠ p := fun z => by
      subst z
      exact no i ⟨⟨x, e, ho⟩, q⟩
    rw [upd_ne ne]
    exact (r.at ho rfl).1
  mine := R.mine
  lent := R.lent
  inj := R.inj
  prot := fun q hq => by
    obtain ⟨h1, h2, h3, h4⟩ := R.prot q hq
    exact ⟨h1, by rw [upd_ne (nx q hq)]; exact h2, h3, h4⟩
theorem set_some {α : Type} {l : List α} {i j : Nat} {x y : α} (h : (l.set i x)[j]? = some y) : (i = j ∧ y = x ∧ i < l.length) ∨ (i ≠ j ∧ l[j]? = some y) := by
  by_cases e : i = j
  · subst e
    by_cases hl : i < l.length
    · rw [List.getElem?_set_self hl] at h
      cases h
      exact .inl ⟨rfl, rfl, hl⟩
    · rw [List.getElem?_eq_none (by simpa using hl)] at h
      cases h
  · rw [List.getElem?_set_ne e] at h
    exact .inr ⟨e, h⟩
theorem Mine.of_set {i j : Nat} {x : Vl} {v : V} {a : Addr} (m : Mine (ρ.set i (some x)) (σ.set i (some v)) j a) : (i = j ∧ x.own = true ∧ v = .ref a) ∨ (i ≠ j ∧ Mine ρ σ j a) := by
  obtain ⟨⟨y, h1, h2⟩, h3⟩ := m
  rcases set_some h1 with ⟨e, q, _⟩ | ⟨ne, q⟩
  · cases q
    rcases set_some h3 with ⟨_, q, _⟩ | ⟨ne, _⟩
    · cases q
      exact .inl ⟨e, h2, rfl⟩
    · exact absurd e ne
  · rcases set_some h3 with ⟨e, _, _⟩ | ⟨_, q3⟩
    · exact absurd e ne
    · exact .inr ⟨ne, ⟨y, q, h2⟩, q3⟩
/-- a slot takes data -/
theorem Rp.store (R : Rp K B ρ σ F H) {i : Nat} {v : V} {d : PyData} (hd : Dat K F v d) : Rp K B (ρ.set i (some (.dat d))) (σ.set i (some v)) F H where
  len := by rw [List.length_set, List.length_set]; exact R.len
  sub := R.sub
  ext := R.ext
  dom := R.dom
  keep := R.keep
  live := R.live
  slot := fun j x e => by
    rcases set_some e with ⟨rfl, q, hl⟩ | ⟨ne, q⟩
    · cases q
      exact ⟨v, List.getElem?_set_self (by rw [← R.len]; exact hl), hd⟩
    · obtain ⟨u, q1, q2⟩ := R.slot j x q
      exact ⟨u, by rw [List.getElem?_set_ne ne]; exact q1, q2⟩
  mine := fun j ds a e e2 => by
    rcases set_some e with ⟨_, q, _⟩ | ⟨ne, q⟩
    · cases q
    · rw [List.getElem?_set_ne ne] at e2
      exact R.mine j ds a q e2
  lent := fun j ds a e e2 => by
    rcases set_some e with ⟨_, q, _⟩ | ⟨ne, q⟩
    · cases q
    · rw [List.getElem?_set_ne ne] at e2
      exact R.lent j ds a q e2
  inj := fun j k a m m2 => by
    rcases m.of_set with ⟨_, h, _⟩ | ⟨_, m'⟩
    · cases h
    · rcases m2.of_set with ⟨_, h, _⟩ | ⟨_, m2'⟩
      · cases h
      · exact R.inj j k a m' m2'
  prot := fun q hq => by
    obtain ⟨h1, h2, h3, h4⟩ := R.prot q hq
    refine ⟨h1, h2, h3, fun j m => ?_⟩
    rcases m.of_set with ⟨_, h, _⟩ | ⟨_, m'⟩
    · cases h
    · exact h4 j m'
/-- a slot takes a list that nobody else holds -/
theorem Rp.storeO (R : Rp K B ρ σ F H) {i : Nat} {a : Addr} {xs : List V} {ds : List PyData} (hF : F a = none) (hH : H a = some (.lst xs)) (hl : xs.length ≤ lim) (hd : Dats K F xs ds) (h0 : B.H0 a = none) (no : ∀ j, ¬ Mine ρ σ j a) (nx : ∀ q ∈ B.ex, q.1 ≠ a) :
    Rp K B (ρ.set i (some (.lst ds))) (σ.set i (some (.ref a))) F H where
  len := by rw [List.length_set, List.length_set]; exact R.len
  sub := R.sub
  ext := R.ext
  dom := R.dom
  keep := R.keep
  live := R.live
  slot := fun j x e => by
    rcases set_some e with ⟨rfl, q, hl'⟩ | ⟨ne, q⟩
    · cases q
      exact ⟨.ref a, List.getElem?_set_self (by rw [← R.len]; exact hl'), a, xs, rfl, hF, hH, hl, hd⟩
    · obtain ⟨u, q1, q2⟩ := R.slot j x q
      exact ⟨u, by rw [List.getElem?_set_ne ne]; exact q1, q2⟩
  mine := fun j es b e e2 => by
    rcases set_some e with ⟨ei, q, _⟩ | ⟨ne, q⟩
    · rcases set_some e2 with ⟨_, q2, _⟩ | ⟨ne, _⟩
      · cases q2
        exact h0
      · exact absurd ei ne
    · rw [List.getElem?_set_ne ne] at e2
      exact R.mine j es b q e2
  lent := fun j ds a e e2 => by
    rcases set_some e with ⟨_, q, _⟩ | ⟨ne, q⟩
    · cases q
    · rw [List.getElem?_set_ne ne] at e2
      exact R.lent j ds a q e2
  inj := fun j k b m m2 => by
    rcases m.of_set with ⟨e1, _, h⟩ | ⟨_, m'⟩
    · rcases m2.of_set with ⟨e2, _, _⟩ | ⟨_, m2'⟩
      · exact e1.symm.trans e2
      · cases h
        exact absurd m2' (no k)
    · rcases m2.of_set with ⟨_, _, h⟩ | ⟨_, m2'⟩
      · cases h
        exact absurd m' (no j)
      · exact R.inj j k b m' m2'
  prot := fun q hq => by
    obtain ⟨h1, h2, h3, h4⟩ := R.prot q hq
    refine ⟨h1, h2, h3, fun j m => ?_⟩
    rcases m.of_set with ⟨_, _, h⟩ | ⟨_, m'⟩
    · cases h
      exact nx q hq rfl
    · exact h4 j m'
/-- slot i's list is written: both forms of it -/
def Vl.wr (es : List PyData) : Vl → Vl
  | .lnt _ => .lnt es
  | _ => .lst es
theorem Rp.write (R : Rp K B ρ σ F H) {i : Nat} {a : Addr} {x : Vl} {es : List PyData} {ys : List V} (hr : ρ[i]? = some (some x)) (ho : x.own = true) (hs : σ[i]? = some (some (.ref a))) (hl : ys.length ≤ lim) (hd : Dats K F ys es) :
    Rp K B (ρ.set i (some (x.wr es))) σ F (upd H a (.lst ys)) := by
  have mi : Mine ρ σ i a := ⟨⟨_, hr, ho⟩, hs⟩
  obtain ⟨hF, u, hu⟩ := R.own_at mi
  have ne : ∀ b o, F b = some o → b ≠ a := fun b o e z => by subst z; rw [hF] at e; cases e
  have back : ∀ {j b}, Mine (ρ.set i (some (x.wr es))) σ j b → Mine ρ σ j b := fun {j b} m => by
    obtain ⟨⟨y, h1, h2⟩, h3⟩ := m
    rcases set_some h1 with ⟨rfl, _, _⟩ | ⟨_, q⟩
    · exact ⟨⟨x, hr, ho⟩, h3⟩
    · exact ⟨⟨y, q, h2⟩, h3⟩
  refine ⟨by rw [List.length_set]; exact R.len, fun b o e => by rw [upd_ne (ne b o e)]; exact R.sub b o e, R.ext, R.dom, fun b o e n => ?_, fun b o e => ?_, fun j y e => ?_, fun j cs b e e2 => ?_, fun j cs b e e2 => ?_, fun j k b m m2 => R.inj j k b (back m) (back m2), fun q hq => ?_⟩
  · have nb : b ≠ a := fun z => by
      subst z
      rcases R.own_in mi with q | q
      · exact n q
      · rw [e] at q; cases q
    rw [upd_ne nb]
    exact R.keep b o e n
  · by_cases z : b = a
    · subst z; exact ⟨_, upd_same⟩
    · obtain ⟨o', q⟩ := R.live b o e
      exact ⟨o', by rw [upd_ne z]; exact q⟩
  · rcases set_some e with ⟨rfl, q, hl'⟩ | ⟨nj, q⟩
    · cases q
      refine ⟨.ref a, hs, ?_⟩
      have fin : LstAt K F (upd H a (.lst ys)) (.ref a) es := ⟨a, ys, rfl, hF, upd_same, hl, hd⟩
      cases x with
      | dat d => cases ho
      | lst _ => exact fin
      | lnt _ => exact fin
    · obtain ⟨v, q1, q2⟩ := R.slot j y q
      refine ⟨v, q1, q2.mono (Same.refl F) fun b ho hv => ?_⟩
      subst hv
      have nb : b ≠ a := fun z => by
        subst z
        exact nj (R.inj i j b mi ⟨⟨y, q, ho⟩, q1⟩)
      exact ⟨(q2.at ho rfl).1, upd_ne nb⟩
  · rcases set_some e with ⟨rfl, q, _⟩ | ⟨_, q⟩
    · cases x with
      | dat d => cases ho
      | lst zs => exact R.mine _ zs b hr e2
      | lnt _ => cases q
    · exact R.mine j cs b q e2
  · rcases set_some e with ⟨rfl, q, _⟩ | ⟨_, q⟩
    · cases x with
      | dat d => cases ho
      | lst zs => cases q
      | lnt zs => exact R.lent _ zs b hr e2
    · exact R.lent j cs b q e2
  · obtain ⟨h1, h2, h3, h4⟩ := R.prot q hq
    have nb : q.1 ≠ a := fun z => h4 i (by rw [z]; exact mi)
    exact ⟨by rw [upd_ne nb]; exact h1, h2, h3, fun j m => h4 j (back m)⟩
/-- the list of slot i is one's own no more -/
theorem Rp.freeze (R : Rp K B ρ σ F H) {i : Nat} {ds : List PyData} (hr : ρ[i]? = some (some (.lst ds))) :
    ∃ a F', σ[i]? = some (some (.ref a)) ∧ Same F F' ∧ Dat K F' (.ref a) (.list ds) ∧ Rp K B (ρ.set i (some (.dat (.list ds)))) σ F' H := by
  obtain ⟨v, hs, a, xs, rfl, hF, hH, hl, hd⟩ := R.slot i _ hr
  have mi : Mine ρ σ i a := ⟨⟨_, hr, rfl⟩, hs⟩
  have sF : Same F (upd F a (.lst xs)) := upd_none hF
  have hD : Dat K (upd F a (.lst xs)) (.ref a) (.list ds) := .lst (.inl (.inl upd_same)) hl (Dats.mono sF ds xs hd)
  have old : ∀ {j : Nat} {y : Vl}, y.own = true → (ρ.set i (some (.dat (.list ds))))[j]? = some (some y) → i ≠ j ∧ ρ[j]? = some (some y) := fun {j y} ho e => by
    rcases set_some e with ⟨_, q, _⟩ | ⟨ne, q⟩
    · cases q; cases ho
    · exact ⟨ne, q⟩
  have mine' : ∀ {j b}, Mine (ρ.set i (some (.dat (.list ds)))) σ j b → Mine ρ σ j b := fun {j b} m => by
    obtain ⟨⟨y, h1, h2⟩, h3⟩ := m
    exact ⟨⟨y, (old h2 h1).2, h2⟩, h3⟩
  refine ⟨a, _, hs, sF, hD, ⟨by rw [List.length_set]; exact R.len, fun b o e => ?_, R.ext.trans sF, fun b o e => ?_, R.keep, R.live, fun j x e => ?_, fun j cs b e e2 => R.mine j cs b (old rfl e).2 e2, fun j cs b e e2 => R.lent j cs b (old rfl e).2 e2, fun j k b m m2 => R.inj j k b (mine' m) (mine' m2), fun q hq => ?_⟩⟩
  · by_cases z : b = a
    · subst z; rw [upd_same] at e; cases e; exact hH
    · rw [upd_ne z] at e; exact R.sub b o e
  · by_cases z : b = a
    · subst z
      exact .inr (R.mine i ds b hr hs)
    · rw [upd_ne z] at e; exact R.dom b o e
  · rcases set_some e with ⟨rfl, q, hl'⟩ | ⟨nj, q⟩
    · cases q
      exact ⟨.ref a, hs, hD⟩
    · obtain ⟨v, q1, q2⟩ := R.slot j x q
      refine ⟨v, q1, q2.mono sF fun b ho hv => ?_⟩
      subst hv
      have nb : b ≠ a := fun z => by
        subst z
        exact nj (R.inj i j b mi ⟨⟨x, q, ho⟩, q1⟩)
      exact ⟨by rw [upd_ne nb]; exact (q2.at ho rfl).1, rfl⟩
  · obtain ⟨h1, h2, h3, h4⟩ := R.prot q hq
    have nb : q.1 ≠ a := fun z => h4 i (by rw [z]; exact mi)
    exact ⟨h1, by rw [upd_ne nb]; exact h2, h3, fun j m => h4 j (mine' m)⟩
/-- something new is kept aside -/
def Bs.aside (B : Bs) (p : Addr) (o : HO) : Bs := { B with ex := (p, o) :: B.ex }
theorem Rp.aside (R : Rp K B ρ σ F H) {p : Addr} {o : HO} (hp : H p = some o) (hF : F p = none) (h0 : B.H0 p = none) (no : ∀ j, ¬ Mine ρ σ j p) : Rp K (B.aside p o) ρ σ F H :=
  ⟨R.len, R.sub, R.ext, R.dom, R.keep, R.live, R.slot, R.mine, R.lent, R.inj, fun q hq => by
    rcases List.mem_cons.mp hq with rfl | hq
    · exact ⟨hp, hF, h0, no⟩
    · exact R.prot q hq⟩
theorem Rp.unaside {p : Addr} {o : HO} (R : Rp K (B.aside p o) ρ σ F H) : Rp K B ρ σ F H ∧ H p = some o ∧ F p = none ∧ B.H0 p = none ∧ ∀ j, ¬ Mine ρ σ j p :=
  ⟨⟨R.len, R.sub, R.ext, R.dom, R.keep, R.live, R.slot, R.mine, R.lent, R.inj, fun q hq => R.prot q (List.mem_cons_of_mem _ hq)⟩, R.prot (p, o) (List.mem_cons_self ..)⟩
/-- what is aside is written -/
theorem Rp.wrEx (R : Rp K B ρ σ F H) {p : Addr} {o : HO} {u : HO} (hp : H p = some u) (hF : F p = none) (h0 : B.H0 p = none) (no : ∀ j, ¬ Mine ρ σ j p) (nx : ∀ q ∈ B.ex, q.1 ≠ p) : Rp K B ρ σ F (upd H p o) where
  len := R.len
  sub := fun b x e => by
    have ne : b ≠ p := fun z => by subst z; rw [hF] at e; cases e
    rw [upd_ne ne]
    exact R.sub b x e
  ext := R.ext
  dom := R.dom
  keep := fun b x e n => by
    have ne : b ≠ p := fun z => by subst z; rw [h0] at e; cases e
    rw [upd_ne ne]
    exact R.keep b x e n
  live := fun b x e => by
    have ne : b ≠ p := fun z => by subst z; rw [h0] at e; cases e
    rw [upd_ne ne]
    exact R.live b x e
  slot := fun i x e => by
    obtain ⟨v, q, r⟩ := R.slot i x e
    refine ⟨v, q, r.mono (Same.refl F) fun a ho hv => ?_⟩
    subst hv
    have ne : a ≠ p := fun z => by subst z; exact no i ⟨⟨x, e, ho⟩, q⟩
    exact ⟨(r.at ho rfl).1, upd_ne ne⟩
  mine := R.mine
  lent := R.lent
  inj := R.inj
  prot := fun q hq => by
    obtain ⟨h1, h2, h3, h4⟩ := R.prot q hq
    exact ⟨by rw [upd_ne (nx q hq)]; exact h1, h2, h3, h4⟩
theorem Rp.fresh_ex (R : Rp K B ρ σ F H) {p : Addr} (hp : H p = none) : ∀ q ∈ B.ex, q.1 ≠ p := fun q hq z => by
  have := (R.prot q hq).1
  rw [z, hp] at this
  cases this
theorem Rp.fresh_mine (R : Rp K B ρ σ F H) {p : Addr} (hp : H p = none) : ∀ j, ¬ Mine ρ σ j p := fun j m => by
  obtain ⟨_, u, h⟩ := R.own_at m
  rw [hp] at h
  cases h
theorem Rp.fresh_H0 (R : Rp K B ρ σ F H) {p : Addr} (hp : H p = none) : B.H0 p = none := by
  cases z : B.H0 p with
  | none => rfl
  | some u =>
    obtain ⟨u', r⟩ := R.live p u z
    rw [hp] at r
    cases r
/-- behind a call to which nothing was lent -/
theorem Rp.after (R : Rp K B ρ σ F H) {ρ' : Rho} {σ' : St} (R' : Rp K ⟨H, F, [], []⟩ ρ' σ' F' H') : Rp K B ρ σ F' H' :=
  R.grow R'.ext R'.sub (fun a o e => R'.keep a o e (by simp)) fun a o e => R'.dom a o e
/-- behind a call to which the list of slot i was lent -/
theorem Rp.afterIo (R : Rp K B ρ σ F H) {ρ' : Rho} {σ' : St} {i : Nat} {x : Vl} {a : Addr} {es : List PyData} (hr : ρ[i]? = some (some x)) (ho : x.own = true) (hs : σ[i]? = some (some (.ref a)))
    (R' : Rp K ⟨H, F, [a], []⟩ ρ' σ' F' H') (L : LstAt K F' H' (.ref a) es) : Rp K B (ρ.set i (some (x.wr es))) σ F' H' := by
  have mi : Mine ρ σ i a := ⟨⟨_, hr, ho⟩, hs⟩
  obtain ⟨hF, u, hu⟩ := R.own_at mi
  obtain ⟨a', ys, ea, lF, lH, ll, ld⟩ := L
  cases ea
  have kp : ∀ b o, b ≠ a → H b = some o → H' b = some o := fun b o ne e => R'.keep b o e (by simpa using ne)
  have nF : ∀ b o, H b = some o → F b = none → F' b = none := fun b o e n => by
    cases z : F' b with
    | none => rfl
    | some w =>
      rcases R'.dom b w z with ⟨o', q⟩ | q
      · have q' : F b = some o' := q
        rw [n] at q'; cases q'
      · have q' : H b = none := q
        rw [e] at q'; cases q'
  have back : ∀ {j b}, Mine (ρ.set i (some (x.wr es))) σ j b → Mine ρ σ j b := fun {j b} m => by
    obtain ⟨⟨y, h1, h2⟩, h3⟩ := m
    rcases set_some h1 with ⟨rfl, _, _⟩ | ⟨_, q⟩
    · exact ⟨⟨x, hr, ho⟩, h3⟩
    · exact ⟨⟨y, q, h2⟩, h3⟩
  refine ⟨by rw [List.length_set]; exact R.len, R'.sub, R.ext.trans R'.ext, fun b o e => ?_, fun b o e n => ?_, fun b o e => ?_, fun j y e => ?_, fun j cs b e e2 => ?_, fun j cs b e e2 => ?_, fun j k b m m2 => R.inj j k b (back m) (back m2), fun q hq => ?_⟩
  · rcases R'.dom b o e with ⟨o', q⟩ | q
    · exact R.dom b o' q
    · exact .inr (R.fresh_H0 q)
  · have nb : b ≠ a := fun z => by
      subst z
      rcases R.own_in mi with q | q
      · exact n q
      · rw [e] at q; cases q
    exact kp b o nb (R.keep b o e n)
  · obtain ⟨o', q⟩ := R.live b o e
    exact R'.live b o' q
  · rcases set_some e with ⟨rfl, q, hl'⟩ | ⟨nj, q⟩
    · cases q
      refine ⟨.ref a, hs, ?_⟩
      have fin : LstAt K F' H' (.ref a) es := ⟨a, ys, rfl, lF, lH, ll, ld⟩
      cases x with
      | dat d => cases ho
      | lst _ => exact fin
      | lnt _ => exact fin
    · obtain ⟨v, q1, q2⟩ := R.slot j y q
      refine ⟨v, q1, q2.mono R'.ext fun b ho hv => ?_⟩
      subst hv
      have nb : b ≠ a := fun z => by
        subst z
        exact nj (R.inj i j b mi ⟨⟨y, q, ho⟩, q1⟩)
      obtain ⟨w1, u, w2⟩ := q2.at ho rfl
      exact ⟨nF b u w2 w1, by rw [w2]; exact kp b u nb w2⟩
  · rcases set_some e with ⟨rfl, q, _⟩ | ⟨_, q⟩
    · cases x with
      | dat d => cases ho
      | lst zs => exact R.mine _ zs b hr e2
      | lnt _ => cases q
    · exact R.mine j cs b q e2
  · rcases set_some e with ⟨rfl, q, _⟩ | ⟨_, q⟩
    · cases x with
      | dat d => cases ho
      | lst zs => cases q
      | lnt zs => exact R.lent _ zs b hr e2
    · exact R.lent j cs b q e2
  · obtain ⟨h1, h2, h3, h4⟩ := R.prot q hq
    have nb : q.1 ≠ a := fun z => h4 i (by rw [z]; exact mi)
    exact ⟨kp _ _ nb h1, nF _ _ h1 h2, h3, fun j m => h4 j (back m)⟩
/-- what may be looked at: it stands in the heap, its items are frozen -/
def Opd (K : PySem.W.Frag) (F H : Hp) (v : V) (d : PyData) : Prop := Dat K F v d ∨ ∃ ds, d = .list ds ∧ LstAt K F H v ds
theorem Opd.dat {v : V} {d : PyData} (h : Opd K F H v d) (s : Same F H) : Dat K H v d := by
  rcases h with h | ⟨ds, rfl, a, xs, rfl, _, h2, h3, h4⟩
  · exact Dat.mono s d v h
  · exact .lst (.inl (.inl h2)) h3 (Dats.mono s ds xs h4)
end
end Pb
end

section
set_option Elab.async false
set_option linter.all false
set_option maxRecDepth 100000
set_option maxHeartbeats 1000000
/-! # The meaning as readings of the layer -/
namespace Pb
open PySem PySem.Spec L2

section
variable {α β : Type} {m : M α} {k : α → M β} {ρ ρ' : Rho} {b : β}
theorem bnd_inv (h : bnd m k ρ = some (b, ρ')) : ∃ a ρ1, m ρ = some (a, ρ1) ∧ k a ρ1 = some (b, ρ') := by
  unfold bnd at h
  cases e : m ρ with
  | none => rw [e] at h; cases h
  | some p => rw [e] at h; exact ⟨p.1, p.2, rfl, h⟩
theorem ret_inv {a c : α} (h : ret a ρ = some (c, ρ')) : a = c ∧ ρ = ρ' := by
  unfold ret at h
  cases h
  exact ⟨rfl, rfl⟩
theorem ofO_inv {o : Option α} {c : α} (h : ofO o ρ = some (c, ρ')) : o = some c ∧ ρ = ρ' := by
  cases o with
  | none => cases h
  | some a =>
    obtain ⟨rfl, rfl⟩ := ret_inv h
    exact ⟨rfl, rfl⟩
theorem fail_inv {c : α} (h : (fail : M α) ρ = some (c, ρ')) : False := by cases h
end

def tE (K : PySem.W.Frag) (m : M PyData) : TE := fun σ H Q => ∃ B ρ F d ρ', Rp K B ρ σ F H ∧ m ρ = some (d, ρ') ∧ ∀ v F' H', Same F F' → Dat K F' v d → Rp K B ρ' σ F' H' → Q v H'
/-- looked at, not kept -/
def tP (K : PySem.W.Frag) (m : M PyData) : TE := fun σ H Q => ∃ B ρ F d ρ', Rp K B ρ σ F H ∧ m ρ = some (d, ρ') ∧ ∀ v F' H', Same F F' → Opd K F' H' v d → Rp K B ρ' σ F' H' → Q v H'
def tT' (K : PySem.W.Frag) (m : M PyData) : TT := fun σ H Q => ∃ B ρ F b ρ', Rp K B ρ σ F H ∧ m ρ = some (.bool b, ρ') ∧ ∀ F' H', Same F F' → Rp K B ρ' σ F' H' → Q b H'
def tA (K : PySem.W.Frag) (m : M (List PyData)) : TA := fun σ H Q => ∃ B ρ F ds ρ', Rp K B ρ σ F H ∧ m ρ = some (ds, ρ') ∧ ∀ vs F' H', Same F F' → Dats K F' vs ds → Rp K B ρ' σ F' H' → Q vs H'
/-- a new list that nobody holds -/
def NewL (K : PySem.W.Frag) (B : Bs) (ρ : Rho) (σ : St) (F H : Hp) (v : V) (ds : List PyData) : Prop :=
  ∃ a xs, v = .ref a ∧ F a = none ∧ H a = some (.lst xs) ∧ xs.length ≤ lim ∧ Dats K F xs ds ∧ B.H0 a = none ∧ (∀ j, ¬ Mine ρ σ j a) ∧ ∀ q ∈ B.ex, q.1 ≠ a
def ResV (K : PySem.W.Frag) (B : Bs) (ρ : Rho) (σ : St) (F H : Hp) (v : V) : Vl → Prop
  | .dat d => Dat K F v d
  | .lst ds => NewL K B ρ σ F H v ds
  | .lnt _ => False
def tO (K : PySem.W.Frag) (m : M Vl) : TE := fun σ H Q => ∃ B ρ F x ρ', Rp K B ρ σ F H ∧ m ρ = some (x, ρ') ∧ ∀ v F' H', Same F F' → ResV K B ρ' σ F' H' v x → Rp K B ρ' σ F' H' → Q v H'
def tS (K : PySem.W.Frag) (m : M Out) : TS := fun D σ H => ∃ B ρ F o ρ', Rp K B ρ σ F H ∧ m ρ = some (o, ρ') ∧ match o with
  | .nx => ∀ σ' F' H', Same F F' → Rp K B ρ' σ' F' H' → D.nx σ' H'
  | .rt x => ∀ v σ' F' H', Same F F' → Rp K B ρ' σ' F' H' → ResV K B ρ' σ' F' H' v x → D.rt v H'
/-- slots off these are as they were -/
def Off (vs : List Nat) (σ σ' : St) : Prop := σ'.length = σ.length ∧ ∀ j, j ∉ vs → σ'[j]? = σ[j]?
def tG (K : PySem.W.Frag) (us : List Nat) (m : PyData → M Unit) : TG := fun v σ H Q => ∃ B ρ F d ρ', Rp K B ρ σ F H ∧ Dat K F v d ∧ m d ρ = some ((), ρ') ∧ ∀ σ' F' H', Off us σ σ' → Same F F' → Rp K B ρ' σ' F' H' → Q σ' H'
def tGs (K : PySem.W.Frag) (us : List Nat) (m : List PyData → M Unit) : TGs := fun vs σ H Q => ∃ B ρ F ds ρ', Rp K B ρ σ F H ∧ Dats K F vs ds ∧ m ds ρ = some ((), ρ') ∧ ∀ σ' F' H', Off us σ σ' → Same F F' → Rp K B ρ' σ' F' H' → Q σ' H'

section
variable {X : Cx} {e : Expr}
theorem pe_imp {t t' : TE} (h : PE X e t) (f : ∀ σ H Q, t' σ H Q → t σ H Q) : PE X e t' := ⟨fun pins s σ H Q I q => h.run pins s σ H Q I (f σ H Q q)⟩
theorem pt_imp {t t' : TT} (h : PT X e t) (f : ∀ σ H Q, t' σ H Q → t σ H Q) : PT X e t' := ⟨fun pins s σ H Q I q => h.run pins s σ H Q I (f σ H Q q)⟩
theorem pw_imp {t t' : TT} (h : PW X e t) (f : ∀ σ H Q, t' σ H Q → t σ H Q) : PW X e t' := ⟨fun wh pins s σ H Q I q => h.run wh pins s σ H Q I (f σ H Q q)⟩
theorem pa_imp {es : List Expr} {t t' : TA} (h : PA X es t) (f : ∀ σ H Q, t' σ H Q → t σ H Q) : PA X es t' := ⟨fun pos pins s σ H Q I q => h.run pos pins s σ H Q I (f σ H Q q)⟩
theorem ps_imp {st : Stmt} {t t' : TS} (h : PS X st t) (f : ∀ D σ H, t' D σ H → t D σ H) : PS X st t' := ⟨fun pins s σ H D I q => h.run pins s σ H D I (f D σ H q)⟩
theorem pss_imp {st : List Stmt} {t t' : TS} (h : PSs X st t) (f : ∀ D σ H, t' D σ H → t D σ H) : PSs X st t' := ⟨fun pins s σ H D I q => h.run pins s σ H D I (f D σ H q)⟩
theorem pg_imp {t t' : TG} (h : PG X e t) (f : ∀ v σ H Q, t' v σ H Q → t v σ H Q) : PG X e t' := ⟨fun pins s σ H v u Q I r q => h.run pins s σ H v u Q I r (f v σ H Q q)⟩
theorem pgs_imp {es : List Expr} {t t' : TGs} (h : PGs X es t) (f : ∀ v σ H Q, t' v σ H Q → t v σ H Q) : PGs X es t' := ⟨fun pins s σ H v u Q I r q => h.run pins s σ H v u Q I r (f v σ H Q q)⟩
end

section
variable {X : Cx} {e a b c : Expr} {pos p : Pos} {m ma mb mc : M PyData}

/-! ### names, constants -/
theorem rd_run {K : PySem.W.Frag} {B : Bs} {ρ ρ' : Rho} {σ : St} {F H : Hp} {i : Nat} {d : PyData} (R : Rp K B ρ σ F H) (h : rd i ρ = some (d, ρ')) :
    ∃ v F', σ[i]? = some (some v) ∧ Same F F' ∧ Dat K F' v d ∧ Rp K B ρ' σ F' H := by
  unfold rd at h
  split at h
  · rename_i d' e1
    cases h
    obtain ⟨v, q1, q2⟩ := R.slot i _ e1
    exact ⟨v, F, q1, Same.refl F, q2, R⟩
  · rename_i ds e1
    cases h
    obtain ⟨a, F', q1, q2, q3, q4⟩ := R.freeze e1
    exact ⟨.ref a, F', q1, q2, q3, q4⟩
  · cases h
theorem pk_run {K : PySem.W.Frag} {B : Bs} {ρ ρ' : Rho} {σ : St} {F H : Hp} {i : Nat} {d : PyData} (R : Rp K B ρ σ F H) (h : pk i ρ = some (d, ρ')) :
    ∃ v, σ[i]? = some (some v) ∧ Opd K F H v d ∧ ρ' = ρ := by
  unfold pk at h
  split at h
  · rename_i d' e1
    cases h
    obtain ⟨v, q1, q2⟩ := R.slot i _ e1
    exact ⟨v, q1, .inl q2, rfl⟩
  · rename_i ds e1
    cases h
    obtain ⟨v, q1, q2⟩ := R.slot i _ e1
    exact ⟨v, q1, .inr ⟨ds, rfl, q2⟩, rfl⟩
  · rename_i ds e1
    cases h
    obtain ⟨v, q1, q2⟩ := R.slot i _ e1
    exact ⟨v, q1, .inr ⟨ds, rfl, q2⟩, rfl⟩
  · cases h
theorem ev_var {i : Nat} (h : PE X e (tVar i)) : PE X e (tE X.K (rd i)) := pe_imp h fun σ H Q ⟨B, ρ, F, d, ρ', R, h1, k⟩ => by
  obtain ⟨v, F', q1, q2, q3, q4⟩ := rd_run R h1
  exact ⟨v, q1, k v F' H q2 q3 q4⟩
theorem ev_const {v : V} {d : PyData} (h : PE X e (tC v)) (hd : ∀ F, Dat X.K F v d) : PE X e (tE X.K (ret d)) := pe_imp h fun σ H Q ⟨B, ρ, F, d', ρ', R, h1, k⟩ => by
  obtain ⟨rfl, rfl⟩ := ret_inv h1
  exact k v F H (Same.refl F) (hd F) R
theorem ev_constO {v : V} {d : PyData} {o : Option PyData} (h : PE X e (tC v)) (ho : o = some d) (hd : ∀ F, Dat X.K F v d) : PE X e (tE X.K (ofO o)) := by
  subst ho
  exact ev_const h hd
theorem ev_none (h : ∀ ρ, m ρ = none) : PE X e (tE X.K m) := ⟨fun pins s σ H Q I ⟨B, ρ, F, d, ρ', R, h1, k⟩ => by rw [h ρ] at h1; cases h1⟩
/-- looked at: any expression, a bare name -/
theorem tE_tP {K : PySem.W.Frag} {σ : St} {H : Hp} {Q : VK} (h : tP K m σ H Q) : tE K m σ H Q := by
  obtain ⟨B, ρ, F, d, ρ', R, h1, k⟩ := h
  exact ⟨B, ρ, F, d, ρ', R, h1, fun v F' H' s q r => k v F' H' s (.inl q) r⟩
theorem ep_of (h : PE X e (tE X.K m)) : PE X e (tP X.K m) := pe_imp h fun _ _ _ => tE_tP
theorem ep_var {i : Nat} (h : PE X e (tVar i)) : PE X e (tP X.K (pk i)) := pe_imp h fun σ H Q ⟨B, ρ, F, d, ρ', R, h1, k⟩ => by
  obtain ⟨v, q1, q2, rfl⟩ := pk_run R h1
  exact ⟨v, q1, k v F H (Same.refl F) q2 R⟩

/-! ### operators by data -/
/-- an operator by data: the operands are frozen -/
def rD (K : PySem.W.Frag) (g : PyData → PyData → Option PyData) : R2 := fun x y H Q => ∃ (B : Bs) (ρ : Rho) (σ : St) (F : Hp) (dx dy d : PyData), Rp K B ρ σ F H ∧ Dat K F x dx ∧ Dat K F y dy ∧ g dx dy = some d ∧
  ∀ v F' H', Same F F' → Dat K F' v d → Rp K B ρ σ F' H' → Q v H'
/-- .. they are looked at -/
def rP (K : PySem.W.Frag) (g : PyData → PyData → Option PyData) : R2 := fun x y H Q => ∃ (B : Bs) (ρ : Rho) (σ : St) (F : Hp) (dx dy d : PyData), Rp K B ρ σ F H ∧ Opd K F H x dx ∧ Opd K F H y dy ∧ g dx dy = some d ∧
  ∀ v F' H', Same F F' → Dat K F' v d → Rp K B ρ σ F' H' → Q v H'
theorem two_some {i : Nat} {f : PyData → PyData → M PyData} : two (some i) ma mb f = bnd (pk i) fun _ => bnd mb fun y => bnd (pk i) fun x => f x y := rfl
theorem two_none {f : PyData → PyData → M PyData} : two none ma mb f = bnd ma fun x => bnd mb fun y => f x y := rfl
def tL (K : PySem.W.Frag) (o : Option Nat) (ma : M PyData) : TE := match o with
  | some i => tVar i
  | none => tE K ma
/-- left first; a bare name's value is looked at behind the right side -/
theorem t_two {K : PySem.W.Frag} {g : PyData → PyData → Option PyData} {o : Option Nat} {σ : St} {H : Hp} {Q : VK} (h : tE K (two o ma mb fun x y => ofO (g x y)) σ H Q) : tOp (rP K g) (tL K o ma) (tP K mb) σ H Q := by
  cases o with
  | some i =>
    obtain ⟨B, ρ, F, d, ρ', R, h1, k⟩ := h
    rw [two_some] at h1
    obtain ⟨_, ρ0, e0, h2⟩ := bnd_inv h1
    obtain ⟨v, hv, _, rfl⟩ := pk_run R e0
    obtain ⟨y, ρ1, e1, h2⟩ := bnd_inv h2
    obtain ⟨x, ρ2, e2, h3⟩ := bnd_inv h2
    obtain ⟨e3, rfl⟩ := ofO_inv h3
    refine ⟨v, hv, B, ρ0, F, y, ρ1, R, e1, fun vy F1 H1 s1 oy R1 => ?_⟩
    obtain ⟨v', q1, q2, rfl⟩ := pk_run R1 e2
    rw [hv] at q1
    cases q1
    exact ⟨B, ρ2, σ, F1, x, y, d, R1, q2, oy, e3, fun v F' H' s q r => k v F' H' (s1.trans s) q r⟩
  | none =>
    obtain ⟨B, ρ, F, d, ρ', R, h1, k⟩ := h
    rw [two_none] at h1
    obtain ⟨x, ρ1, e1, h2⟩ := bnd_inv h1
    obtain ⟨y, ρ2, e2, h3⟩ := bnd_inv h2
    obtain ⟨e3, rfl⟩ := ofO_inv h3
    refine ⟨B, ρ, F, x, ρ1, R, e1, fun vx F1 H1 s1 dx R1 => ⟨B, ρ1, F1, y, ρ2, R1, e2, fun vy F2 H2 s2 oy R2 => ?_⟩⟩
    exact ⟨B, ρ2, σ, F2, x, y, d, R2, .inl (Dat.mono s2 _ _ dx), oy, e3, fun v F' H' s q r => k v F' H' ((s1.trans s2).trans s) q r⟩
theorem t_bin {K : PySem.W.Frag} {g : PyData → PyData → Option PyData} {σ : St} {H : Hp} {Q : VK} (h : tE K (bnd ma fun x => bnd mb fun y => ofO (g x y)) σ H Q) : tOp (rD K g) (tE K ma) (tE K mb) σ H Q := by
  obtain ⟨B, ρ, F, d, ρ', R, h1, k⟩ := h
  obtain ⟨x, ρ1, e1, h2⟩ := bnd_inv h1
  obtain ⟨y, ρ2, e2, h3⟩ := bnd_inv h2
  obtain ⟨e3, rfl⟩ := ofO_inv h3
  refine ⟨B, ρ, F, x, ρ1, R, e1, fun vx F1 H1 s1 dx R1 => ⟨B, ρ1, F1, y, ρ2, R1, e2, fun vy F2 H2 s2 dy R2 => ?_⟩⟩
  exact ⟨B, ρ2, σ, F2, x, y, d, R2, Dat.mono s2 _ _ dx, dy, e3, fun v F' H' s q r => k v F' H' ((s1.trans s2).trans s) q r⟩
end

section
variable {X : Cx}
theorem reads_of {pins : List (Addr × Obj)} {σ : St} {H : Hp} {s : Shared} {v : V} {u : Value} {d : PyData} (I : Inv X pins σ H s) (h : Dat X.K H v d) (r : RelV v u) : (∃ as, Reads s.heap u d as) ∧ d.canLay0 = true :=
  ⟨Dp.reads I d v u (Dat.dp d v h) r, Dat.lay d v h⟩
/-- two lists, any that may be read -/
def rCatL (K : PySem.W.Frag) : R2 := fun x y H Q => ∃ l b xs zs, x = .ref l ∧ y = .ref b ∧ SqL K H l xs ∧ SqL K H b zs ∧ xs.length + zs.length ≤ sizeLine ∧ ∀ p, H p = none → Q (.ref p) (upd H p (.lst (xs ++ zs)))
theorem op_catL : OpR X (binaryOp .Add) (rCatL X.K) := by
  intro pins s σ H x y v u Q I rx ry ⟨l, b, xs, zs, hx, hy, hH, hB, hz, q⟩
  subst hx hy
  cases rx
  cases ry
  obtain ⟨its, r, ⟨⟨oc, od, dt, sl⟩, n, e, hc, hd, hs⟩, z⟩ := I.list hH
  obtain ⟨its2, r2, ⟨⟨oc2, od2, dt2, sl2⟩, n2, e2, hc2, hd2, hs2⟩, z2⟩ := I.list hB
  simp only at hc hd hs hc2 hd2 hs2
  subst hc hd hs hc2 hd2 hs2
  have l1 := r.length
  have l2 := r2.length
  have ea : its.toArray ++ its2.toArray = (its ++ its2).toArray := by simp
  refine PySem.concat_meets ⟨_, e, rfl⟩ ⟨_, e2, rfl⟩ PySem.noFill_list_add PySem.seq_list_add PySem.F.slot_list_add PySem.F.entry_list_add (PySem.F.args_list_add_2 _ _)
    (PyProof.Rows.list_addW l b its.toArray its2.toArray n n2 none none sl sl2 (by rw [List.size_toArray, List.size_toArray]; omega)) ⟨e, e2, ?_⟩
  rw [ea]
  exact ⟨.ref _, _, I.lnew (t' := s.toks) (r.append r2) (by rw [List.length_append]; omega), rfl, q _ I.fresh⟩
theorem datL {K : PySem.W.Frag} {F : Hp} {p : Addr} {xs : List V} {ds : List PyData} (hl : xs.length ≤ lim) (h : Dats K F xs ds) (hp : F p = none) : Dat K (upd F p (.lst xs)) (.ref p) (.list ds) :=
  .lst (.inl (.inl upd_same)) hl (Dats.mono (upd_none hp) ds xs h)
theorem datT {K : PySem.W.Frag} {F : Hp} {p : Addr} {xs : List V} {ds : List PyData} (hl : xs.length ≤ lim) (h : Dats K F xs ds) (hp : F p = none) : Dat K (upd F p (.tup xs)) (.ref p) (.tuple ds) :=
  .tup (.inl (.inl upd_same)) hl (Dats.mono (upd_none hp) ds xs h)
theorem op_add_bi : OpR X (binaryOp .Add) (fun x y H Q => ∃ b j, x = .bl b ∧ y = .int j ∧ Q (.int (Pb.b2i b + j)) H) := by
  intro pins s σ H x y v u Q I rx ry ⟨b, j, ex, ey, q⟩
  subst ex ey
  obtain ⟨t, rfl⟩ := ry
  cases rx
  exact PySem.IntBool.add_bool_int ⟨.int (Pb.b2i b + j), H, I.tok _, ⟨_, rfl⟩, q⟩
theorem op_sub_bi : OpR X (binaryOp .Sub) (fun x y H Q => ∃ b j, x = .bl b ∧ y = .int j ∧ Q (.int (Pb.b2i b - j)) H) := by
  intro pins s σ H x y v u Q I rx ry ⟨b, j, ex, ey, q⟩
  subst ex ey
  obtain ⟨t, rfl⟩ := ry
  cases rx
  exact PySem.IntBool.sub_bool_int ⟨.int (Pb.b2i b - j), H, I.tok _, ⟨_, rfl⟩, q⟩
theorem od_add : OpR X (binaryOp .Add) (rD X.K (opBin .add)) := by
  intro pins s σ H x y v u Q I rx ry ⟨B, ρ, σ', F, dx, dy, d, R, hx, hy, e, k⟩
  cases hx with
  | int i =>
    cases hy with
    | int j =>
      cases e
      exact op_add pins s σ H _ _ v u Q I rx ry ⟨i, j, rfl, rfl, k _ F H (Same.refl F) (.int _) R⟩
    | _ => cases e
  | bl b =>
    cases hy with
    | int j =>
      cases e
      exact op_add_bi pins s σ H _ _ v u Q I rx ry ⟨b, j, rfl, rfl, k _ F H (Same.refl F) (.int _) R⟩
    | _ => cases e
  | @lst a xs ds h1 h2 h3 =>
    cases hy with
    | @lst b ys es g1 g2 g3 =>
      have e' : (if ds.length + es.length ≤ lim then some (PyData.list (ds ++ es)) else none) = some d := e
      split at e'
      · rename_i hle
        cases e'
        have hl : (xs ++ ys).length ≤ lim := by rw [List.length_append, h3.len, g3.len]; exact hle
        refine op_catL pins s σ H _ _ v u Q I rx ry ⟨a, b, xs, ys, rfl, rfl, R.sub.seq h1, R.sub.seq g1, lim_le (by rw [← List.length_append]; exact hl), fun p hp => ?_⟩
        exact k _ _ _ (upd_none (R.sub.free hp)) (datL hl (h3.app g3) (R.sub.free hp)) (R.new hp)
      · cases e'
    | _ => cases e
  | @tup a xs ds h1 h2 h3 =>
    cases hy with
    | @tup b ys es g1 g2 g3 =>
      have e' : (if ds.length + es.length ≤ lim then some (PyData.tuple (ds ++ es)) else none) = some d := e
      split at e'
      · rename_i hle
        cases e'
        have hl : (xs ++ ys).length ≤ lim := by rw [List.length_append, h3.len, g3.len]; exact hle
        refine op_catA pins s σ H _ _ v u Q I rx ry ⟨a, b, xs, ys, rfl, rfl, sameT R.sub h1, sameT R.sub g1, lim_le (by rw [← List.length_append]; exact hl), fun z => ?_, fun z z2 => ?_, fun z z2 p hp => ?_⟩
        · subst z
          cases h3
          exact k _ F H (Same.refl F) (.tup g1 g2 g3) R
        · subst z2
          cases g3
          rw [List.append_nil] at k
          exact k _ F H (Same.refl F) (.tup h1 h2 h3) R
        · exact k _ _ _ (upd_none (R.sub.free hp)) (datT hl (h3.app g3) (R.sub.free hp)) (R.new hp)
      · cases e'
    | _ => cases e
  | _ => cases hy <;> cases e
theorem od_sub : OpR X (binaryOp .Sub) (rD X.K (opBin .sub)) := by
  intro pins s σ H x y v u Q I rx ry ⟨B, ρ, σ', F, dx, dy, d, R, hx, hy, e, k⟩
  cases hx with
  | int i =>
    cases hy with
    | int j =>
      cases e
      exact op_sub pins s σ H _ _ v u Q I rx ry ⟨i, j, rfl, rfl, k _ F H (Same.refl F) (.int _) R⟩
    | _ => cases e
  | bl b =>
    cases hy with
    | int j =>
      cases e
      exact op_sub_bi pins s σ H _ _ v u Q I rx ry ⟨b, j, rfl, rfl, k _ F H (Same.refl F) (.int _) R⟩
    | _ => cases e
  | _ => cases hy <;> cases e
theorem od_mul : OpR X (binaryOp .Mult) (rD X.K (opBin .mul)) := by
  intro pins s σ H x y v u Q I rx ry ⟨B, ρ, σ', F, dx, dy, d, R, hx, hy, e, k⟩
  cases hx with
  | int i =>
    cases hy with
    | int j =>
      have e' : (if i.natAbs < 2 ^ 64 ∨ j.natAbs < 2 ^ 64 then some (PyData.int (i * j)) else none) = some d := e
      split at e'
      · rename_i hc
        cases e'
        have hc' : (-(2 ^ 64) < i ∧ i < 2 ^ 64) ∨ (-(2 ^ 64) < j ∧ j < 2 ^ 64) := by
          rw [show (2 : Nat) ^ 64 = 18446744073709551616 by decide +kernel] at hc
          rw [show (2 : Int) ^ 64 = 18446744073709551616 by decide +kernel]
          omega
        exact op_mul pins s σ H _ _ v u Q I rx ry ⟨i, j, rfl, rfl, hc', k _ F H (Same.refl F) (.int _) R⟩
      · cases e'
    | _ => cases e
  | _ => cases hy <;> cases e
theorem od_fdiv : OpR X (binaryOp .FloorDiv) (rD X.K (opBin .fdiv)) := by
  intro pins s σ H x y v u Q I rx ry ⟨B, ρ, σ', F, dx, dy, d, R, hx, hy, e, k⟩
  cases hx with
  | int i =>
    cases hy with
    | int j =>
      have e' : (if 0 < j ∧ j.natAbs < 1073741824 then some (PyData.int (i / j)) else none) = some d := e
      split at e'
      · rename_i hc
        cases e'
        exact op_fdiv pins s σ H _ _ v u Q I rx ry ⟨i, j, rfl, rfl, ⟨hc.1, by omega⟩, k _ F H (Same.refl F) (.int _) R⟩
      · cases e'
    | _ => cases e
  | _ => cases hy <;> cases e
theorem od_mod : OpR X (binaryOp .Mod) (rD X.K (opBin .mod)) := by
  intro pins s σ H x y v u Q I rx ry ⟨B, ρ, σ', F, dx, dy, d, R, hx, hy, e, k⟩
  cases hx with
  | int i =>
    cases hy with
    | int j =>
      have e' : (if 0 < j then some (PyData.int (i % j)) else none) = some d := e
      split at e'
      · rename_i hc
        cases e'
        exact op_mod pins s σ H _ _ v u Q I rx ry ⟨i, j, rfl, rfl, hc, k _ F H (Same.refl F) (.int _) R⟩
      · cases e'
    | _ => cases e
  | _ => cases hy <;> cases e
theorem od_pow : OpR X (binaryOp .Pow) (rD X.K (opBin .pow)) := by
  intro pins s σ H x y v u Q I rx ry ⟨B, ρ, σ', F, dx, dy, d, R, hx, hy, e, k⟩
  cases hx with
  | int i =>
    cases hy with
    | int j =>
      have e' : (if 0 ≤ j ∧ j ≤ 1000000 ∧ i.natAbs < 2 ^ 64 then some (PyData.int (i ^ j.toNat)) else none) = some d := e
      split at e'
      · rename_i hc
        cases e'
        exact op_pow pins s σ H _ _ v u Q I rx ry ⟨i, j, rfl, rfl, hc, k _ F H (Same.refl F) (.int _) R⟩
      · cases e'
    | _ => cases e
  | _ => cases hy <;> cases e
def bopOf : Bop → Operator
  | .add => .Add
  | .sub => .Sub
  | .mul => .Mult
  | .fdiv => .FloorDiv
  | .mod => .Mod
  | .pow => .Pow
theorem od_bin (o : Bop) : OpR X (binaryOp (bopOf o)) (rD X.K (opBin o)) := by
  cases o with
  | add => exact od_add
  | sub => exact od_sub
  | mul => exact od_mul
  | fdiv => exact od_fdiv
  | mod => exact od_mod
  | pow => exact od_pow
theorem ev_bin {a b : Expr} {ma mb : M PyData} {pos : Pos} (o : Bop) (ha : PE X a (tE X.K ma)) (hb : PE X b (tE X.K mb)) : PE X (.BinOp a (bopOf o) b pos) (tE X.K (bnd ma fun x => bnd mb fun y => ofO (opBin o x y))) :=
  pe_imp (pe_op (od_bin o) ha hb) fun _ _ _ => t_bin

/-! ### comparisons -/
theorem room_min {A : Around} {n m : Nat} (hu : A.units + 65 < cLine) (h : min n m ≤ 64) : A.units + min n m < cLine := by omega
theorem room_min1 {A : Around} {n m : Nat} (hu : A.units + 65 < cLine) (h : min n m ≤ 64) : A.units + 1 + min n m < cLine := by omega
def gB (g : PyData → PyData → Option Bool) : PyData → PyData → Option PyData := fun x y => (g x y).map .bool
theorem gB_some {g : PyData → PyData → Option Bool} {x y d : PyData} (h : gB g x y = some d) : ∃ b, g x y = some b ∧ d = .bool b := by
  unfold gB at h
  cases e : g x y with
  | none => rw [e] at h; cases h
  | some b => rw [e] at h; cases h; exact ⟨b, rfl, rfl⟩
theorem oc_eq (hu : X.A.units + 65 < cLine) : OpR X (compareOp .Eq) (rP X.K (gB (opCmp .eq))) := by
  intro pins s σ H x y v u Q I rx ry ⟨B, ρ, σ', F, dx, dy, d, R, hx, hy, e, k⟩
  obtain ⟨b, eb, rfl⟩ := gB_some e
  have e' : (if min dx.depth dy.depth ≤ 64 then some (PyData.eqv dx dy) else none) = some b := eb
  split at e'
  · rename_i hc
    cases e'
    obtain ⟨⟨as, r1⟩, l1⟩ := reads_of I (hx.dat R.sub) rx
    obtain ⟨⟨bs, r2⟩, l2⟩ := reads_of I (hy.dat R.sub) ry
    exact SeqAt.compareEq_reads r1 r2 l1 l2 (room_min hu hc) ⟨.bl _, H, I, rfl, k _ F H (Same.refl F) (.bl _) R⟩
  · cases e'
theorem oc_ne (hu : X.A.units + 65 < cLine) : OpR X (compareOp .NotEq) (rP X.K (gB (opCmp .ne))) := by
  intro pins s σ H x y v u Q I rx ry ⟨B, ρ, σ', F, dx, dy, d, R, hx, hy, e, k⟩
  obtain ⟨b, eb, rfl⟩ := gB_some e
  have e' : (if min dx.depth dy.depth ≤ 64 then some (PyData.eqv dx dy) else none).map (!·) = some b := eb
  split at e'
  · rename_i hc
    cases e'
    obtain ⟨⟨as, r1⟩, l1⟩ := reads_of I (hx.dat R.sub) rx
    obtain ⟨⟨bs, r2⟩, l2⟩ := reads_of I (hy.dat R.sub) ry
    exact SeqAt.compareNe_reads r1 r2 l1 l2 (room_min hu hc) ⟨.bl _, H, I, rfl, k _ F H (Same.refl F) (.bl _) R⟩
  · cases e'
theorem inStr_some {x y : PyData} {b : Bool} (h : inStr x y = some b) : ∃ c z, x = .str ⟨#[c]⟩ ∧ y = .str z ∧ b = decide (c ∈ z.cps.toList) := by
  unfold inStr at h
  split at h
  · rename_i x y
    split at h
    · rename_i c hc
      cases h
      obtain ⟨cps⟩ := x
      have : cps = #[c] := by
        apply Array.ext'
        simpa using hc
      subst this
      exact ⟨c, y, rfl, rfl, rfl⟩
    · cases h
  · cases h
theorem oc_in (hu : X.A.units + 65 < cLine) : OpR X (compareOp .In) (rP X.K (gB (opCmp .isin))) := by
  intro pins s σ H x y v u Q I rx ry ⟨B, ρ, σ', F, dx, dy, d, R, hx, hy, e, k⟩
  obtain ⟨b, eb, rfl⟩ := gB_some e
  have hx' := hx.dat R.sub
  have hy' := hy.dat R.sub
  obtain ⟨⟨as, r1⟩, l1⟩ := reads_of I hx' rx
  obtain ⟨⟨bs, r2⟩, l2⟩ := reads_of I hy' ry
  cases dy with
  | list ds =>
    have e' : (if min (PyData.depthAll ds) dx.depth ≤ 64 then some (ds.any fun y => PyData.eqv y dx) else none) = some b := eb
    split at e'
    · rename_i hc
      cases e'
      have l2' : PyData.canLayAll0 ds = true := by simpa only [PyData.canLay0] using l2
      exact SeqAt.in_list_reads r2 r1 l2' l1 (room_min1 hu hc) ⟨.bl _, H, I, rfl, k _ F H (Same.refl F) (.bl _) R⟩
    · cases e'
  | tuple ds =>
    have e' : (if min (PyData.depthAll ds) dx.depth ≤ 64 then some (ds.any fun y => PyData.eqv y dx) else none) = some b := eb
    split at e'
    · rename_i hc
      cases e'
      have l2' : PyData.canLayAll0 ds = true := by simpa only [PyData.canLay0] using l2
      exact SeqAt.in_tuple_reads r2 r1 l2' l1 (room_min1 hu hc) ⟨.bl _, H, I, rfl, k _ F H (Same.refl F) (.bl _) R⟩
    · cases e'
  | str z =>
    obtain ⟨c, z', rfl, q, hb⟩ := inStr_some (show inStr dx (.str z) = some b from eb)
    cases q
    subst hb
    cases hx'
    cases hy'
    exact op_in_sign pins s σ H _ _ v u Q I rx ry ⟨c, z, rfl, rfl, k _ F H (Same.refl F) (.bl _) R⟩
  | _ => cases eb
theorem oc_notin (hu : X.A.units + 65 < cLine) : OpR X (compareOp .NotIn) (rP X.K (gB (opCmp .notin))) := by
  intro pins s σ H x y v u Q I rx ry ⟨B, ρ, σ', F, dx, dy, d, R, hx, hy, e, k⟩
  obtain ⟨b, eb, rfl⟩ := gB_some e
  have hx' := hx.dat R.sub
  have hy' := hy.dat R.sub
  obtain ⟨⟨as, r1⟩, l1⟩ := reads_of I hx' rx
  obtain ⟨⟨bs, r2⟩, l2⟩ := reads_of I hy' ry
  cases dy with
  | list ds =>
    have e' : (if min (PyData.depthAll ds) dx.depth ≤ 64 then some (ds.any fun y => PyData.eqv y dx) else none).map (!·) = some b := eb
    split at e'
    · rename_i hc
      cases e'
      have l2' : PyData.canLayAll0 ds = true := by simpa only [PyData.canLay0] using l2
      exact SeqAt.notIn_list_reads r2 r1 l2' l1 (room_min1 hu hc) ⟨.bl _, H, I, rfl, k _ F H (Same.refl F) (.bl _) R⟩
    · cases e'
  | tuple ds =>
    have e' : (if min (PyData.depthAll ds) dx.depth ≤ 64 then some (ds.any fun y => PyData.eqv y dx) else none).map (!·) = some b := eb
    split at e'
    · rename_i hc
      cases e'
      have l2' : PyData.canLayAll0 ds = true := by simpa only [PyData.canLay0] using l2
      exact SeqAt.notIn_tuple_reads r2 r1 l2' l1 (room_min1 hu hc) ⟨.bl _, H, I, rfl, k _ F H (Same.refl F) (.bl _) R⟩
    · cases e'
  | str z =>
    cases q : inStr dx (.str z) with
    | none =>
      have e' : (inStr dx (.str z)).map (!·) = some b := eb
      rw [q] at e'
      cases e'
    | some b' =>
      have e' : (inStr dx (.str z)).map (!·) = some b := eb
      rw [q] at e'
      cases e'
      obtain ⟨c, z', rfl, q, hb⟩ := inStr_some q
      cases q
      subst hb
      cases hx'
      cases hy'
      exact op_notIn_sign pins s σ H _ _ v u Q I rx ry ⟨c, z, rfl, rfl, k _ F H (Same.refl F) (.bl _) R⟩
  | _ => cases eb
end
end Pb
end

section
set_option Elab.async false
set_option linter.all false
set_option maxRecDepth 100000
set_option maxHeartbeats 1000000
namespace Pb
open PySem PySem.Spec L2
section
variable {X : Cx}
theorem oc_lt (hu : X.A.units + 65 < cLine) : OpR X (compareOp .Lt) (rP X.K (gB (opCmp .lt))) := by
  intro pins s σ H x y v u Q I rx ry ⟨B, ρ, σ', F, dx, dy, d, R, hx, hy, e, k⟩
  obtain ⟨b, eb, rfl⟩ := gB_some e
  have hx' := hx.dat R.sub
  have hy' := hy.dat R.sub
  have eb' : ltD dx dy = some b := eb
  unfold ltD at eb'
  split at eb'
  · cases eb'
    cases hx'
    cases hy'
    exact op_lt pins s σ H _ _ v u Q I rx ry ⟨_, _, rfl, rfl, k _ F H (Same.refl F) (.bl _) R⟩
  · cases eb'
    cases hx'
    cases hy'
    exact op_lt_str pins s σ H _ _ v u Q I rx ry ⟨_, _, rfl, rfl, k _ F H (Same.refl F) (.bl _) R⟩
  · split at eb'
    · rename_i hc
      cases eb'
      obtain ⟨⟨as, r1⟩, l1⟩ := reads_of I hx' rx
      obtain ⟨⟨bs, r2⟩, l2⟩ := reads_of I hy' ry
      exact PySem.W.rcLt_alike _ _ _ _ _ _ _ _ r1 r2 (by unfold PySem.W.alike; exact hc.1) (fun z => by cases z) (room_min hu hc.2) _ _ _ _ ⟨.bl _, H, I, rfl, k _ F H (Same.refl F) (.bl _) R⟩
    · cases eb'
  · cases eb'
theorem oc_le : OpR X (compareOp .LtE) (rP X.K (gB (opCmp .le))) := by
  intro pins s σ H x y v u Q I rx ry ⟨B, ρ, σ', F, dx, dy, d, R, hx, hy, e, k⟩
  obtain ⟨b, eb, rfl⟩ := gB_some e
  have hx' := hx.dat R.sub
  have hy' := hy.dat R.sub
  have eb' : leD dx dy = some b := eb
  unfold leD at eb'
  split at eb'
  · cases eb'
    cases hx'
    cases hy'
    exact op_le pins s σ H _ _ v u Q I rx ry ⟨_, _, rfl, rfl, k _ F H (Same.refl F) (.bl _) R⟩
  · cases eb'
    cases hx'
    cases hy'
    exact op_le_str pins s σ H _ _ v u Q I rx ry ⟨_, _, rfl, rfl, k _ F H (Same.refl F) (.bl _) R⟩
  · cases eb'
theorem oc_gt : OpR X (compareOp .Gt) (rP X.K (gB (opCmp .gt))) := by
  intro pins s σ H x y v u Q I rx ry ⟨B, ρ, σ', F, dx, dy, d, R, hx, hy, e, k⟩
  obtain ⟨b, eb, rfl⟩ := gB_some e
  have hx' := hx.dat R.sub
  have hy' := hy.dat R.sub
  have eb' : gtD dx dy = some b := eb
  unfold gtD at eb'
  split at eb'
  · cases eb'
    cases hx'
    cases hy'
    exact op_gt pins s σ H _ _ v u Q I rx ry ⟨_, _, rfl, rfl, k _ F H (Same.refl F) (.bl _) R⟩
  · cases eb'
    cases hx'
    cases hy'
    exact op_gt_str pins s σ H _ _ v u Q I rx ry ⟨_, _, rfl, rfl, k _ F H (Same.refl F) (.bl _) R⟩
  · cases eb'
theorem oc_ge : OpR X (compareOp .GtE) (rP X.K (gB (opCmp .ge))) := by
  intro pins s σ H x y v u Q I rx ry ⟨B, ρ, σ', F, dx, dy, d, R, hx, hy, e, k⟩
  obtain ⟨b, eb, rfl⟩ := gB_some e
  have hx' := hx.dat R.sub
  have hy' := hy.dat R.sub
  have eb' : geD dx dy = some b := eb
  unfold geD at eb'
  split at eb'
  · cases eb'
    cases hx'
    cases hy'
    exact op_ge pins s σ H _ _ v u Q I rx ry ⟨_, _, rfl, rfl, k _ F H (Same.refl F) (.bl _) R⟩
  · cases eb'
    cases hx'
    cases hy'
    exact op_ge_str pins s σ H _ _ v u Q I rx ry ⟨_, _, rfl, rfl, k _ F H (Same.refl F) (.bl _) R⟩
  · cases eb'
def copOf : Cop → CmpOp
  | .eq => .Eq
  | .ne => .NotEq
  | .lt => .Lt
  | .le => .LtE
  | .gt => .Gt
  | .ge => .GtE
  | .isin => .In
  | .notin => .NotIn
theorem oc_all (hu : X.A.units + 65 < cLine) (o : Cop) : OpR X (compareOp (copOf o)) (rP X.K (gB (opCmp o))) := by
  cases o with
  | eq => exact oc_eq hu
  | ne => exact oc_ne hu
  | lt => exact oc_lt hu
  | le => exact oc_le
  | gt => exact oc_gt
  | ge => exact oc_ge
  | isin => exact oc_in hu
  | notin => exact oc_notin hu

variable {e a b c : Expr} {pos p : Pos} {m ma mb mc : M PyData}
/-- a test by its value -/
theorem t_test {K : PySem.W.Frag} {σ : St} {H : Hp} {Q : Bool → Hp → Prop} (h : tT' K m σ H Q) : tE K m σ H fun x H1 => ∃ k, x = .bl k ∧ Q k H1 := by
  obtain ⟨B, ρ, F, k, ρ', R, h1, kk⟩ := h
  refine ⟨B, ρ, F, _, ρ', R, h1, fun v F' H' s q r => ?_⟩
  cases q
  exact ⟨k, rfl, kk F' H' s r⟩
theorem et_val (h : PE X e (tE X.K m)) (he : ∀ whole, isTrue e X.env whole = (do let v ← whole; standAt e.pos; holding [v] (truthy v))) : PT X e (tT' X.K m) := pt_imp (pt_val h he) fun _ _ _ => t_test
theorem ev_cmp {o : Cop} {ia : Option Nat} (hu : X.A.units + 65 < cLine) (ha : PE X a (tL X.K ia ma)) (hb : PE X b (tP X.K mb)) (hm : behindInMarks (copOf o) b = false) :
    PE X (.Compare a [copOf o] [b] pos) (tE X.K (two ia ma mb fun x y => boolM (opCmp o x y))) := pe_imp (pe_cmpR (oc_all hu o) ha hb hm) fun _ _ _ h => t_two (g := gB (opCmp o)) h
theorem et_cmp {o : Cop} {ia : Option Nat} (hu : X.A.units + 65 < cLine) (ha : PE X a (tL X.K ia ma)) (hb : PE X b (tP X.K mb)) (hm : behindInMarks (copOf o) b = false) :
    PT X (.Compare a [copOf o] [b] pos) (tT' X.K (two ia ma mb fun x y => boolM (opCmp o x y))) := pt_imp (pt_cmpR (oc_all hu o) ha hb hm) fun _ _ _ h => t_two (g := gB (opCmp o)) (t_test h)
theorem t_chain {K : PySem.W.Frag} {o o' : Cop} {σ : St} {H : Hp} {Q : VK}
    (h : tE K (bnd ma fun x => bnd mb fun y => bnd (ofO (opCmp o x y)) fun k => if k = true then bnd mc fun z => boolM (opCmp o' y z) else ret (.bool false)) σ H Q) :
    tChain (rP K (gB (opCmp o))) (rP K (gB (opCmp o'))) (tE K ma) (tE K mb) (tE K mc) σ H Q := by
  obtain ⟨B, ρ, F, d, ρ', R, h1, k⟩ := h
  obtain ⟨x, ρ1, e1, hh2⟩ := bnd_inv h1
  obtain ⟨y, ρ2, e2, hh3⟩ := bnd_inv hh2
  obtain ⟨q, ρ3, e3, hh4⟩ := bnd_inv hh3
  obtain ⟨e3z, rfl⟩ := ofO_inv e3
  refine ⟨B, ρ, F, x, ρ1, R, e1, fun vx F1 H1 s1 dx R1 => ⟨B, ρ1, F1, y, ρ2, R1, e2, fun vy F2 H2 s2 dy R2 => ?_⟩⟩
  refine ⟨B, ρ2, σ, F2, x, y, .bool q, R2, .inl (Dat.mono s2 _ _ dx), .inl dy, by unfold gB; rw [e3z]; rfl, fun v F3 H3 s3 dv R3 => ?_⟩
  cases dv
  refine ⟨q, rfl, ?_⟩
  cases q with
  | true =>
    rw [if_pos rfl] at hh4 ⊢
    obtain ⟨z, ρ4, e4, hh5⟩ := bnd_inv hh4
    obtain ⟨e5, rfl⟩ := ofO_inv hh5
    exact ⟨B, ρ2, F3, z, ρ4, R3, e4, fun vz F4 H4 s4 dz R4 => ⟨B, ρ4, σ, F4, y, z, d, R4, .inl (Dat.mono (s3.trans s4) _ _ dy), .inl dz, e5, fun v F' H' s q r => k v F' H' ((((s1.trans s2).trans s3).trans s4).trans s) q r⟩⟩
  | false =>
    rw [if_neg (by decide)] at hh4 ⊢
    obtain ⟨rfl, rfl⟩ := ret_inv hh4
    exact k _ F3 H3 ((s1.trans s2).trans s3) (.bl _) R3
theorem ev_chain {o o' : Cop} (hu : X.A.units + 65 < cLine) (ha : PE X a (tE X.K ma)) (hb : PE X b (tE X.K mb)) (hc : PE X c (tE X.K mc)) (hm : lastMarks [copOf o, copOf o'] [b, c] = false) :
    PE X (.Compare a [copOf o, copOf o'] [b, c] pos) (tE X.K (bnd ma fun x => bnd mb fun y => bnd (ofO (opCmp o x y)) fun k => if k = true then bnd mc fun z => boolM (opCmp o' y z) else ret (.bool false))) :=
  pe_imp (pe_chain (oc_all hu o) (oc_all hu o') ha hb hc hm) fun _ _ _ => t_chain
theorem et_chain {o o' : Cop} (hu : X.A.units + 65 < cLine) (ha : PE X a (tE X.K ma)) (hb : PE X b (tE X.K mb)) (hc : PE X c (tE X.K mc)) (hm : lastMarks [copOf o, copOf o'] [b, c] = false) :
    PT X (.Compare a [copOf o, copOf o'] [b, c] pos) (tT' X.K (bnd ma fun x => bnd mb fun y => bnd (ofO (opCmp o x y)) fun k => if k = true then bnd mc fun z => boolM (opCmp o' y z) else ret (.bool false))) :=
  pt_imp (pt_chain (oc_all hu o) (oc_all hu o') ha hb hc hm) fun _ _ _ h => t_chain (t_test h)

/-! ### is None -/
theorem isNone_dat {K : PySem.W.Frag} {F : Hp} {v : V} {d : PyData} (h : Dat K F v d) : decide (v = .non) = isNone d := by
  cases h <;> simp [isNone]
theorem t_isN {K : PySem.W.Frag} {σ : St} {H : Hp} {Q : VK} (h : tE K (bnd ma fun x => ret (.bool (isNone x))) σ H Q) : tIsN (tE K ma) σ H Q := by
  obtain ⟨B, ρ, F, d, ρ', R, h1, k⟩ := h
  obtain ⟨x, ρ1, e1, hh2⟩ := bnd_inv h1
  obtain ⟨rfl, rfl⟩ := ret_inv hh2
  refine ⟨B, ρ, F, x, ρ1, R, e1, fun vx F1 H1 s1 dx R1 => ?_⟩
  show Q (.bl (decide (vx = .non))) H1
  rw [isNone_dat dx]
  exact k _ F1 H1 s1 (.bl _) R1
theorem t_notN {K : PySem.W.Frag} {σ : St} {H : Hp} {Q : VK} (h : tE K (bnd ma fun x => ret (.bool (!isNone x))) σ H Q) : tNotN (tE K ma) σ H Q := by
  obtain ⟨B, ρ, F, d, ρ', R, h1, k⟩ := h
  obtain ⟨x, ρ1, e1, hh2⟩ := bnd_inv h1
  obtain ⟨rfl, rfl⟩ := ret_inv hh2
  refine ⟨B, ρ, F, x, ρ1, R, e1, fun vx F1 H1 s1 dx R1 => ?_⟩
  show Q (.bl (!decide (vx = .non))) H1
  rw [isNone_dat dx]
  exact k _ F1 H1 s1 (.bl _) R1
theorem ev_isN {j pos'} (ha : PE X a (tE X.K ma)) : PE X (.Compare a [.Is] [.Constant .none j pos'] pos) (tE X.K (bnd ma fun x => ret (.bool (isNone x)))) := pe_imp (pe_cmp (pc_isN ha) rfl) fun _ _ _ => t_isN
theorem et_isN {j pos'} (ha : PE X a (tE X.K ma)) : PT X (.Compare a [.Is] [.Constant .none j pos'] pos) (tT' X.K (bnd ma fun x => ret (.bool (isNone x)))) := pt_imp (pt_cmp (pc_isN ha) rfl) fun _ _ _ h => t_isN (t_test h)
theorem ev_notN {j pos'} (ha : PE X a (tE X.K ma)) : PE X (.Compare a [.IsNot] [.Constant .none j pos'] pos) (tE X.K (bnd ma fun x => ret (.bool (!isNone x)))) := pe_imp (pe_cmp (pc_notN ha) rfl) fun _ _ _ => t_notN
theorem et_notN {j pos'} (ha : PE X a (tE X.K ma)) : PT X (.Compare a [.IsNot] [.Constant .none j pos'] pos) (tT' X.K (bnd ma fun x => ret (.bool (!isNone x)))) := pt_imp (pt_cmp (pc_notN ha) rfl) fun _ _ _ h => t_notN (t_test h)

/-! ### and, or, not, if -/
theorem asB_some {d : PyData} {k : Bool} (h : asB d = some k) : d = .bool k := by
  unfold asB at h
  split at h
  · cases h; rfl
  · cases h
theorem ev_not (ha : PE X a (tE X.K ma)) : PE X (.UnaryOp .Not a pos) (tE X.K (bnd ma fun x => ofO ((asB x).map fun b => .bool (!b)))) := pe_imp (pe_not ha) fun σ H Q ⟨B, ρ, F, d, ρ', R, h1, k⟩ => by
  obtain ⟨x, ρ1, e1, hh2⟩ := bnd_inv h1
  obtain ⟨e2, rfl⟩ := ofO_inv hh2
  obtain ⟨q, e3, rfl⟩ := Option.map_eq_some_iff.mp e2
  have := asB_some e3
  subst this
  refine ⟨B, ρ, F, _, ρ1, R, e1, fun vx F1 H1 s1 dx R1 => ?_⟩
  cases dx
  exact ⟨q, rfl, k _ F1 H1 s1 (.bl _) R1⟩
theorem et_not (ha : PT X a (tT' X.K ma)) : PT X (.UnaryOp .Not a pos) (tT' X.K (bnd ma fun x => ofO ((asB x).map fun b => .bool (!b)))) := pt_imp (pt_not ha) fun σ H Q ⟨B, ρ, F, d, ρ', R, h1, k⟩ => by
  obtain ⟨x, ρ1, e1, hh2⟩ := bnd_inv h1
  obtain ⟨e2, rfl⟩ := ofO_inv hh2
  obtain ⟨q, e3, e4⟩ := Option.map_eq_some_iff.mp e2
  have := asB_some e3
  subst this
  cases e4
  exact ⟨B, ρ, F, q, ρ1, R, e1, fun F1 H1 s1 R1 => k F1 H1 s1 R1⟩
theorem ev_neg (ha : PE X a (tE X.K ma)) : PE X (.UnaryOp .USub a pos) (tE X.K (bnd ma fun x => ofO ((asI x).map fun i => .int (-i)))) := pe_imp (pe_un un_neg ha) fun σ H Q ⟨B, ρ, F, d, ρ', R, h1, k⟩ => by
  obtain ⟨x, ρ1, e1, hh2⟩ := bnd_inv h1
  obtain ⟨e2, rfl⟩ := ofO_inv hh2
  obtain ⟨q, e3, rfl⟩ := Option.map_eq_some_iff.mp e2
  refine ⟨B, ρ, F, _, ρ1, R, e1, fun vx F1 H1 s1 dx R1 => ?_⟩
  cases dx <;> cases e3
  exact ⟨q, rfl, k _ F1 H1 s1 (.int _) R1⟩
theorem ev_one {op} (ha : PE X a (tE X.K ma)) : PE X (.BoolOp op [a] pos) (tE X.K (bnd ma fun x => ofO ((asB x).map .bool))) := pe_imp (pe_one ha) fun σ H Q ⟨B, ρ, F, d, ρ', R, h1, k⟩ => by
  obtain ⟨x, ρ1, e1, hh2⟩ := bnd_inv h1
  obtain ⟨e2, rfl⟩ := ofO_inv hh2
  obtain ⟨q, e3, rfl⟩ := Option.map_eq_some_iff.mp e2
  have := asB_some e3
  subst this
  exact ⟨B, ρ, F, _, ρ1, R, e1, k⟩
variable {rest : List Expr}
theorem ev_and (ha : PE X a (tE X.K ma)) (hb : PE X (.BoolOp .And (b :: rest) pos) (tE X.K mb)) :
    PE X (.BoolOp .And (a :: b :: rest) pos) (tE X.K (bnd ma fun x => bnd (ofO (asB x)) fun k => if k = true then mb else ret (.bool false))) := pe_imp (pe_and ha hb) fun σ H Q ⟨B, ρ, F, d, ρ', R, h1, k⟩ => by
  obtain ⟨x, ρ1, e1, hh2⟩ := bnd_inv h1
  obtain ⟨q, ρ2, e2, hh3⟩ := bnd_inv hh2
  obtain ⟨e2z, rfl⟩ := ofO_inv e2
  have := asB_some e2z
  subst this
  refine ⟨B, ρ, F, _, ρ1, R, e1, fun vx F1 H1 s1 dx R1 => ?_⟩
  cases dx
  refine ⟨q, rfl, ?_⟩
  cases q with
  | true =>
    rw [if_pos rfl] at hh3 ⊢
    exact ⟨B, ρ1, F1, d, ρ', R1, hh3, fun v F' H' s q r => k v F' H' (s1.trans s) q r⟩
  | false =>
    rw [if_neg (by decide)] at hh3 ⊢
    obtain ⟨rfl, rfl⟩ := ret_inv hh3
    exact k _ F1 H1 s1 (.bl _) R1
theorem ev_or (ha : PE X a (tE X.K ma)) (hb : PE X (.BoolOp .Or (b :: rest) pos) (tE X.K mb)) :
    PE X (.BoolOp .Or (a :: b :: rest) pos) (tE X.K (bnd ma fun x => bnd (ofO (asB x)) fun k => if k = true then ret (.bool true) else mb)) := pe_imp (pe_or ha hb) fun σ H Q ⟨B, ρ, F, d, ρ', R, h1, k⟩ => by
  obtain ⟨x, ρ1, e1, hh2⟩ := bnd_inv h1
  obtain ⟨q, ρ2, e2, hh3⟩ := bnd_inv hh2
  obtain ⟨e2z, rfl⟩ := ofO_inv e2
  have := asB_some e2z
  subst this
  refine ⟨B, ρ, F, _, ρ1, R, e1, fun vx F1 H1 s1 dx R1 => ?_⟩
  cases dx
  refine ⟨q, rfl, ?_⟩
  cases q with
  | false =>
    rw [if_neg (by decide)] at hh3 ⊢
    exact ⟨B, ρ1, F1, d, ρ', R1, hh3, fun v F' H' s q r => k v F' H' (s1.trans s) q r⟩
  | true =>
    rw [if_pos rfl] at hh3 ⊢
    obtain ⟨rfl, rfl⟩ := ret_inv hh3
    exact k _ F1 H1 s1 (.bl _) R1
theorem et_and1 (ha : PT X a (tT' X.K ma)) : PW X (.BoolOp .And [a] pos) (tT' X.K (bnd ma fun x => ofO ((asB x).map .bool))) := pw_imp (pw_and1 ha) fun σ H Q ⟨B, ρ, F, d, ρ', R, h1, k⟩ => by
  obtain ⟨x, ρ1, e1, hh2⟩ := bnd_inv h1
  obtain ⟨e2, rfl⟩ := ofO_inv hh2
  obtain ⟨q, e3, e4⟩ := Option.map_eq_some_iff.mp e2
  have := asB_some e3
  subst this
  cases e4
  exact ⟨B, ρ, F, _, ρ1, R, e1, k⟩
theorem et_or1 (ha : PT X a (tT' X.K ma)) : PW X (.BoolOp .Or [a] pos) (tT' X.K (bnd ma fun x => ofO ((asB x).map .bool))) := pw_imp (pw_or1 ha) fun σ H Q ⟨B, ρ, F, d, ρ', R, h1, k⟩ => by
  obtain ⟨x, ρ1, e1, hh2⟩ := bnd_inv h1
  obtain ⟨e2, rfl⟩ := ofO_inv hh2
  obtain ⟨q, e3, e4⟩ := Option.map_eq_some_iff.mp e2
  have := asB_some e3
  subst this
  cases e4
  exact ⟨B, ρ, F, _, ρ1, R, e1, k⟩
theorem et_and (ha : PT X a (tT' X.K ma)) (hb : PW X (.BoolOp .And (b :: rest) pos) (tT' X.K mb)) :
    PW X (.BoolOp .And (a :: b :: rest) pos) (tT' X.K (bnd ma fun x => bnd (ofO (asB x)) fun k => if k = true then mb else ret (.bool false))) := pw_imp (pw_and ha hb) fun σ H Q ⟨B, ρ, F, d, ρ', R, h1, k⟩ => by
  obtain ⟨x, ρ1, e1, hh2⟩ := bnd_inv h1
  obtain ⟨q, ρ2, e2, hh3⟩ := bnd_inv hh2
  obtain ⟨e2z, rfl⟩ := ofO_inv e2
  have := asB_some e2z
  subst this
  refine ⟨B, ρ, F, q, ρ1, R, e1, fun F1 H1 s1 R1 => ?_⟩
  cases q with
  | true =>
    rw [if_pos rfl] at hh3 ⊢
    exact ⟨B, ρ1, F1, d, ρ', R1, hh3, fun F' H' s r => k F' H' (s1.trans s) r⟩
  | false =>
    rw [if_neg (by decide)] at hh3 ⊢
    obtain ⟨e5, rfl⟩ := ret_inv hh3
    cases e5
    exact k F1 H1 s1 R1
theorem et_or (ha : PT X a (tT' X.K ma)) (hb : PW X (.BoolOp .Or (b :: rest) pos) (tT' X.K mb)) :
    PW X (.BoolOp .Or (a :: b :: rest) pos) (tT' X.K (bnd ma fun x => bnd (ofO (asB x)) fun k => if k = true then ret (.bool true) else mb)) := pw_imp (pw_or ha hb) fun σ H Q ⟨B, ρ, F, d, ρ', R, h1, k⟩ => by
  obtain ⟨x, ρ1, e1, hh2⟩ := bnd_inv h1
  obtain ⟨q, ρ2, e2, hh3⟩ := bnd_inv hh2
  obtain ⟨e2z, rfl⟩ := ofO_inv e2
  have := asB_some e2z
  subst this
  refine ⟨B, ρ, F, q, ρ1, R, e1, fun F1 H1 s1 R1 => ?_⟩
  cases q with
  | false =>
    rw [if_neg (by decide)] at hh3 ⊢
    exact ⟨B, ρ1, F1, d, ρ', R1, hh3, fun F' H' s r => k F' H' (s1.trans s) r⟩
  | true =>
    rw [if_pos rfl] at hh3 ⊢
    obtain ⟨e5, rfl⟩ := ret_inv hh3
    cases e5
    exact k F1 H1 s1 R1
theorem ev_ite (hc : PT X c (tT' X.K mc)) (ha : PE X a (tE X.K ma)) (hb : PE X b (tE X.K mb)) : PE X (.IfExp c a b pos) (tE X.K (bnd mc fun k => bnd (ofO (asB k)) fun k => if k = true then ma else mb)) := pe_imp (pe_ifExp hc ha hb) fun σ H Q ⟨B, ρ, F, d, ρ', R, h1, k⟩ => by
  obtain ⟨x, ρ1, e1, hh2⟩ := bnd_inv h1
  obtain ⟨q, ρ2, e2, hh3⟩ := bnd_inv hh2
  obtain ⟨e2z, rfl⟩ := ofO_inv e2
  have := asB_some e2z
  subst this
  refine ⟨B, ρ, F, q, ρ1, R, e1, fun F1 H1 s1 R1 => ?_⟩
  cases q with
  | true =>
    rw [if_pos rfl] at hh3 ⊢
    exact ⟨B, ρ1, F1, d, ρ', R1, hh3, fun v F' H' s q r => k v F' H' (s1.trans s) q r⟩
  | false =>
    rw [if_neg (by decide)] at hh3 ⊢
    exact ⟨B, ρ1, F1, d, ρ', R1, hh3, fun v F' H' s q r => k v F' H' (s1.trans s) q r⟩

/-! ### argument lists, displays -/
variable {es : List Expr} {ms : M (List PyData)}
theorem ea_nil : PA X [] (tA X.K (ret [])) := pa_imp pa_nil fun σ H Q ⟨B, ρ, F, d, ρ', R, h1, k⟩ => by
  obtain ⟨rfl, rfl⟩ := ret_inv h1
  exact k [] F H (Same.refl F) .nil R
theorem ea_cons (ha : PE X a (tE X.K ma)) (hr : PA X es (tA X.K ms)) (hs : starEach (a :: es) X.env = (false, eval a X.env) :: starEach es X.env) : PA X (a :: es) (tA X.K (bnd ma fun d => bnd ms fun ds => ret (d :: ds))) :=
  pa_imp (pa_cons ha hr hs) fun σ H Q ⟨B, ρ, F, d, ρ', R, h1, k⟩ => by
  obtain ⟨x, ρ1, e1, hh2⟩ := bnd_inv h1
  obtain ⟨y, ρ2, e2, hh3⟩ := bnd_inv hh2
  obtain ⟨rfl, rfl⟩ := ret_inv hh3
  exact ⟨B, ρ, F, x, ρ1, R, e1, fun vx F1 H1 s1 dx R1 => ⟨B, ρ1, F1, y, ρ2, R1, e2, fun vs F2 H2 s2 dy R2 => k _ F2 H2 (s1.trans s2) (.cons (Dat.mono s2 _ _ dx) dy) R2⟩⟩
theorem ev_tup {x1} (h : PA X es (tA X.K ms)) : PE X (.Tuple es x1 pos) (tE X.K (bnd ms fun ds => if ds.length ≤ lim then ret (.tuple ds) else fail)) := pe_imp (pe_tup h) fun σ H Q ⟨B, ρ, F, d, ρ', R, h1, k⟩ => by
  obtain ⟨x, ρ1, e1, hh2⟩ := bnd_inv h1
  split at hh2
  · rename_i hl
    obtain ⟨rfl, rfl⟩ := ret_inv hh2
    refine ⟨B, ρ, F, x, ρ1, R, e1, fun vs F1 H1 s1 dx R1 => ?_⟩
    have hl' : vs.length ≤ lim := by rw [dx.len]; exact hl
    exact ⟨lim_le hl', fun p hp => k _ _ _ (s1.trans (upd_none (R1.sub.free hp))) (datT hl' dx (R1.sub.free hp)) (R1.new hp)⟩
  · exact (fail_inv hh2).elim
theorem ev_lst (h : PA X es (tA X.K ms)) : PE X (.List es pos) (tE X.K (bnd ms fun ds => if ds.length ≤ lim then ret (.list ds) else fail)) := pe_imp (pe_lst h) fun σ H Q ⟨B, ρ, F, d, ρ', R, h1, k⟩ => by
  obtain ⟨x, ρ1, e1, hh2⟩ := bnd_inv h1
  split at hh2
  · rename_i hl
    obtain ⟨rfl, rfl⟩ := ret_inv hh2
    refine ⟨B, ρ, F, x, ρ1, R, e1, fun vs F1 H1 s1 dx R1 => ?_⟩
    have hl' : vs.length ≤ lim := by rw [dx.len]; exact hl
    exact ⟨lim_le hl', fun p hp => k _ _ _ (s1.trans (upd_none (R1.sub.free hp))) (datL hl' dx (R1.sub.free hp)) (R1.new hp)⟩
  · exact (fail_inv hh2).elim
end
end Pb
end

section
set_option Elab.async false
set_option linter.all false
set_option maxRecDepth 100000
set_option maxHeartbeats 1000000
namespace Pb
open PySem PySem.Spec L2
section
variable {X : Cx} {e a b c : Expr} {es : List Expr} {pos p : Pos} {m ma mb mc : M PyData} {ms : M (List PyData)}

/-! ### isinstance -/
def tyStr : Ty → String
  | .int => "int"
  | .bool => "bool"
  | .str => "str"
  | .list => "list"
  | .tuple => "tuple"
def tyOf : PyData → String
  | .none => "NoneType"
  | .bool _ => "bool"
  | .int _ => "int"
  | .str _ => "str"
  | .list _ => "list"
  | .tuple _ => "tuple"
  | .dict _ => "dict"
theorem kit_b (d : PyData) (t : Ty) (h : plainB d = true) : kitB (tyOf d) (tyStr t) = some (isTy t d) := by
  cases d with
  | dict _ => cases h
  | _ => cases t <;> simp only [tyOf, tyStr, isTy] <;> decide +kernel
theorem tyx {K : PySem.W.Frag} {H : Hp} {v : V} {d : PyData} (h : Dat K H v d) : TyX K H v (.type (tyOf d)) := by
  cases h with
  | non => exact .base .non
  | bl b => exact .base (.bl b)
  | int i => exact .base (.int i)
  | str x _ => exact .base (.str x)
  | lst h _ _ =>
    rcases h with (h | ⟨o, h⟩) | ⟨o, its, n, h1, h2, _⟩
    · exact .base (.lst h)
    · exact .base (.frz h)
    · exact .kList h1 h2
  | tup h _ _ =>
    rcases h with (h | ⟨o, h⟩) | ⟨o, its, n, h1, h2, _⟩
    · exact .base (.tup h)
    · exact .fTuple h
    · exact .kTuple h1 h2
theorem ev_isi {t : Ty} {px q : Pos} (ha : PE X a (tE X.K ma)) (hg : Gl X "isinstance") (hm : X.mg "isinstance" = none) (hgt : Gl X (tyStr t)) (hmt : X.mg (tyStr t) = none)
    (hs : starEach (a :: [.Name (tyStr t) q]) X.env = (false, eval a X.env) :: starEach [.Name (tyStr t) q] X.env) :
    PE X (.Call (.Name "isinstance" px) [a, .Name (tyStr t) q] [] pos) (tE X.K (bnd ma fun x => if plainB x = true then ret (.bool (isTy t x)) else fail)) := by
  have hty : PE X (.Name (tyStr t) q) (tC (.ty (tyStr t))) := by
    cases t <;> exact pe_bltn hgt hmt (by first | exact PyProof.Rows.boot_int | exact PyProof.Rows.boot_bool | exact PyProof.Rows.boot_str | exact PyProof.Rows.boot_list | exact PyProof.Rows.boot_tuple) rfl (by decide) (by decide)
  refine pe_imp (pe_callB call_isi hg hm PyProof.Rows.boot_isinstance (pa_cons ha (pa_cons hty pa_nil) hs) (by decide) (by decide) hs) fun σ H Q ⟨B, ρ, F, d, ρ', R, h1, k⟩ => ?_
  obtain ⟨x, ρ1, e1, h2⟩ := bnd_inv h1
  split at h2
  · rename_i hp
    obtain ⟨rfl, rfl⟩ := ret_inv h2
    refine ⟨B, ρ, F, x, ρ1, R, e1, fun vx F1 H1 s1 dx R1 => ?_⟩
    exact ⟨vx, _, _, _, isTy t x, rfl, .ty (tyStr t), tyx (Dat.mono R1.sub _ _ dx), kit_ty (kit_b x t hp), k _ F1 H1 s1 (.bl _) R1⟩
  · exact (fail_inv h2).elim
/-- a tuple of types, written -/
def tysA (X : Cx) : List Ty → List Expr → Prop
  | [], [] => True
  | t :: ts, e :: es => (∃ q, e = .Name (tyStr t) q) ∧ Gl X (tyStr t) ∧ X.mg (tyStr t) = none ∧ tysA X ts es
  | _, _ => False
theorem tys_pa : ∀ (ts : List Ty) (es : List Expr), tysA X ts es → ∃ t, PA X es t ∧ ∀ σ H Q, Q (ts.map fun t => V.ty (tyStr t)) H → t σ H Q
  | [], [], _ => ⟨tNil, pa_nil, fun _ _ _ h => h⟩
  | t :: ts, e :: es, h => by
    obtain ⟨⟨q, rfl⟩, hg, hm, hr⟩ := h
    obtain ⟨u, h1, h2⟩ := tys_pa ts es hr
    have hty : PE X (.Name (tyStr t) q) (tC (.ty (tyStr t))) := by
      cases t <;> exact pe_bltn hg hm (by first | exact PyProof.Rows.boot_int | exact PyProof.Rows.boot_bool | exact PyProof.Rows.boot_str | exact PyProof.Rows.boot_list | exact PyProof.Rows.boot_tuple) rfl (by decide) (by decide)
    exact ⟨_, pa_cons hty h1 rfl, fun σ H Q h => h2 σ H _ h⟩
  | [], _ :: _, h => h.elim
  | _ :: _, [], h => h.elim
theorem tys_cls : ∀ ts : List Ty, Paired ClsV (ts.map fun t => V.ty (tyStr t)) (ts.map fun t => Value.type (tyStr t))
  | [] => .nil
  | t :: ts => .cons (.ty _) (tys_cls ts)
theorem tys_any {K : PySem.W.Frag} {d : PyData} (h : plainB d = true) : ∀ ts : List Ty, PySem.W.kitAny K (.type (tyOf d)) (ts.map fun t => Value.type (tyStr t)) = some (ts.any fun t => isTy t d)
  | [] => kitAny_nil
  | t :: ts => kitAny_cons (kit_ty (kit_b d t h)) (fun q => by rw [tys_any h ts, List.any_cons, q, Bool.false_or]) fun q => by rw [List.any_cons, q, Bool.true_or]
theorem ev_isiT {ts : List Ty} {tes : List Expr} {px q : Pos} {x1} (ha : PE X a (tE X.K ma)) (hg : Gl X "isinstance") (hm : X.mg "isinstance" = none) (ht : tysA X ts tes) (hl : ts.length ≤ 10)
    (hs : starEach (a :: [.Tuple tes x1 q]) X.env = (false, eval a X.env) :: starEach [.Tuple tes x1 q] X.env) :
    PE X (.Call (.Name "isinstance" px) [a, .Tuple tes x1 q] [] pos) (tE X.K (bnd ma fun x => if plainB x = true then ret (.bool (ts.any fun t => isTy t x)) else fail)) := by
  obtain ⟨tt, hpa, hta⟩ := tys_pa ts tes ht
  refine pe_imp (pe_callB call_isiT hg hm PyProof.Rows.boot_isinstance (pa_cons ha (pa_cons (pe_tup hpa) pa_nil rfl) hs) (by decide) (by decide) hs) fun σ H Q ⟨B, ρ, F, d, ρ', R, h1, k⟩ => ?_
  obtain ⟨x, ρ1, e1, h2⟩ := bnd_inv h1
  split at h2
  · rename_i hp
    obtain ⟨rfl, rfl⟩ := ret_inv h2
    refine ⟨B, ρ, F, x, ρ1, R, e1, fun vx F1 H1 s1 dx R1 => hta _ _ _ ⟨?_, fun tp htp => ?_⟩⟩
    · rw [List.length_map]
      exact lim_le (Nat.le_trans hl (by decide))
    · have R2 := R1.newH (o := .tup (ts.map fun t => V.ty (tyStr t))) htp
      exact ⟨vx, tp, _, _, _, _, rfl, upd_same, tys_cls ts, tyx (Dat.mono R2.sub _ _ dx), tys_any hp ts, k _ F1 _ s1 (.bl _) R2⟩
  · exact (fail_inv h2).elim

/-! ### built-in functions of one argument -/
def rD1 (K : PySem.W.Frag) (g : PyData → Option PyData) : List V → Hp → VK → Prop := fun xs H Q => ∃ (B : Bs) (ρ : Rho) (σ : St) (F : Hp) (x : V) (dx d : PyData), xs = [x] ∧ Rp K B ρ σ F H ∧ Opd K F H x dx ∧ (Dat K F x dx ∨ ∃ n, d = .int n) ∧ g dx = some d ∧
  ∀ v F' H', Same F F' → Dat K F' v d → Rp K B ρ σ F' H' → Q v H'
theorem Opd.seq {K : PySem.W.Frag} {F H : Hp} {v : V} {ds : List PyData} (h : Opd K F H v (.list ds)) (s : Same F H) : ∃ a xs, v = .ref a ∧ SqL K H a xs ∧ xs.length ≤ lim ∧ Dats K F xs ds := by
  rcases h with h | ⟨ds', e, a, xs, rfl, _, h2, h3, h4⟩
  · cases h with
    | lst h1 h2 h3 => exact ⟨_, _, rfl, s.seq h1, h2, h3⟩
  · cases e
    exact ⟨a, xs, rfl, .inl (.inl h2), h3, h4⟩
theorem Opd.tup {K : PySem.W.Frag} {F H : Hp} {v : V} {ds : List PyData} (h : Opd K F H v (.tuple ds)) : Dat K F v (.tuple ds) := by
  rcases h with h | ⟨ds', e, _⟩
  · exact h
  · cases e
theorem asBs_dats {K : PySem.W.Frag} {F : Hp} : ∀ {ds : List PyData} {xs : List V} {bs : List Bool}, Dats K F xs ds → asBs ds = some bs → xs = bs.map V.bl
  | [], _, _, h, e => by cases h; cases e; rfl
  | d :: ds, _, bs, h, e => by
    cases h with
    | cons h1 h2 =>
      cases h1 with
      | bl b =>
        have e' : (asBs ds).map (b :: ·) = some bs := e
        obtain ⟨cs, q, rfl⟩ := Option.map_eq_some_iff.mp e'
        rw [List.map_cons, asBs_dats h2 q]
      | _ => cases e
theorem cb_len : CallR X (.builtin "len") (rD1 X.K (opBi .len)) := by
  intro pins s σ H xs us Q I r ⟨B, ρ, σ', F, x, dx, d, ex, R, ho, _, e, k⟩
  subst ex
  cases dx with
  | list ds =>
    cases e
    obtain ⟨a, ys, rfl, h1, h2, h3⟩ := ho.seq R.sub
    refine call_len_seq pins s σ H _ us Q I r ⟨a, ys, rfl, .inl h1, ?_⟩
    rw [h3.len]
    exact k _ F H (Same.refl F) (.int _) R
  | tuple ds =>
    cases e
    cases ho.tup with
    | tup h1 h2 h3 =>
      refine call_len_seq pins s σ H _ us Q I r ⟨_, _, rfl, .inr (sameT R.sub h1), ?_⟩
      rw [h3.len]
      exact k _ F H (Same.refl F) (.int _) R
  | str z =>
    have e' : (if z.length ≤ lim then some (PyData.int z.length) else none) = some d := e
    split at e'
    · rename_i hz
      cases e'
      rcases ho with ho | ⟨_, q, _⟩
      · cases ho
        exact call_len_str pins s σ H _ us Q I r ⟨z, rfl, lim_le hz, k _ F H (Same.refl F) (.int _) R⟩
      · cases q
    · cases e'
  | _ => cases e
theorem cb_all (hc : X.calm = true) : CallR X (.builtin "all") (rD1 X.K (opBi .all)) := by
  intro pins s σ H xs us Q I r ⟨B, ρ, σ', F, x, dx, d, ex, R, ho, _, e, k⟩
  subst ex
  cases dx with
  | list ds =>
    obtain ⟨bs, q, rfl⟩ := Option.map_eq_some_iff.mp (show (asBs ds).map _ = some d from e)
    obtain ⟨a, ys, rfl, h1, h2, h3⟩ := ho.seq R.sub
    have := asBs_dats h3 q
    subst this
    exact cr_all hc pins s σ H _ us Q I r ⟨a, bs, rfl, h1, k _ F H (Same.refl F) (.bl _) R⟩
  | _ => cases e
theorem cb_any (hc : X.calm = true) : CallR X (.builtin "any") (rD1 X.K (opBi .any)) := by
  intro pins s σ H xs us Q I r ⟨B, ρ, σ', F, x, dx, d, ex, R, ho, _, e, k⟩
  subst ex
  cases dx with
  | list ds =>
    obtain ⟨bs, q, rfl⟩ := Option.map_eq_some_iff.mp (show (asBs ds).map _ = some d from e)
    obtain ⟨a, ys, rfl, h1, h2, h3⟩ := ho.seq R.sub
    have := asBs_dats h3 q
    subst this
    exact cr_any hc pins s σ H _ us Q I r ⟨a, bs, rfl, h1, k _ F H (Same.refl F) (.bl _) R⟩
  | _ => cases e
theorem cb_tuple : CallR X (.type "tuple") (rD1 X.K (opBi .tuple)) := by
  intro pins s σ H xs us Q I r ⟨B, ρ, σ', F, x, dx, d, ex, R, ho, hd, e, k⟩
  subst ex
  cases dx with
  | list ds =>
    cases e
    obtain ⟨a, ys, rfl, h1, h2, h3⟩ := ho.seq R.sub
    exact call_tuple_of pins s σ H _ us Q I r ⟨a, ys, rfl, .inl ⟨h1, fun l hl => k _ _ _ (upd_none (R.sub.free hl)) (datT h2 h3 (R.sub.free hl)) (R.new hl)⟩⟩
  | tuple ds =>
    cases e
    have ht := ho.tup
    cases ht with
    | tup h1 h2 h3 => exact call_tuple_of pins s σ H _ us Q I r ⟨_, _, rfl, .inr ⟨sameT R.sub h1, k _ F H (Same.refl F) (.tup h1 h2 h3) R⟩⟩
  | _ => cases e
theorem cb_list : CallR X (.type "list") (rD1 X.K (opBi .list)) := by
  intro pins s σ H xs us Q I r ⟨B, ρ, σ', F, x, dx, d, ex, R, ho, hd, e, k⟩
  subst ex
  cases dx with
  | list ds =>
    cases e
    obtain ⟨a, ys, rfl, h1, h2, h3⟩ := ho.seq R.sub
    exact call_list_of pins s σ H _ us Q I r ⟨a, ys, rfl, .inl h1, fun l hl => k _ _ _ (upd_none (R.sub.free hl)) (datL h2 h3 (R.sub.free hl)) (R.new hl)⟩
  | tuple ds =>
    cases e
    have ht := ho.tup
    cases ht with
    | tup h1 h2 h3 => exact call_list_of pins s σ H _ us Q I r ⟨_, _, rfl, .inr (sameT R.sub h1), fun l hl => k _ _ _ (upd_none (R.sub.free hl)) (datL h2 h3 (R.sub.free hl)) (R.new hl)⟩
  | _ => cases e
theorem strOk_of (s : String) : PyData.strOk (Str.ofString s) = true := by
  unfold PyData.strOk Str.ofString
  rw [cpsOfBytes_string, List.all_toArray, List.all_eq_true]
  intro c hc
  obtain ⟨ch, _, rfl⟩ := List.mem_map.mp hc
  have h := ch.valid
  have e : ch.toNat = ch.val.toNat := rfl
  rw [e]
  simp only [UInt32.isValidChar, Nat.isValidChar] at h
  exact decide_eq_true (by omega)
theorem strOk_int (i : Int) : PyData.strOk (toString i : Str) = true := strOk_of (toString i)
theorem cb_str : CallR X (.type "str") (rD1 X.K (opBi .str)) := by
  intro pins s σ H xs us Q I r ⟨B, ρ, σ', F, x, dx, d, ex, R, ho, hd, e, k⟩
  subst ex
  cases dx with
  | int i =>
    have e' : (if i.natAbs.log2 < 1920 then some (PyData.str (toString i)) else none) = some d := e
    split at e'
    · rename_i hz
      cases e'
      rcases ho with ho | ⟨_, q, _⟩
      · cases ho
        exact call_str_int pins s σ H _ us Q I r ⟨i, rfl, hz, k _ F H (Same.refl F) (.str _ (strOk_int i)) R⟩
      · cases q
    · cases e'
  | bool b =>
    cases e
    rcases ho with ho | ⟨_, q, _⟩
    · cases ho
      obtain ⟨u, rfl, rfl⟩ := vals1 r
      exact PySem.P.str_of_bool ⟨.str _, H, I.tok _, ⟨_, rfl⟩, k _ F H (Same.refl F) (.str _ (by cases b <;> decide +kernel)) R⟩
    · cases q
  | _ => cases e
end
end Pb
end

section
set_option Elab.async false
set_option linter.all false
set_option maxRecDepth 100000
set_option maxHeartbeats 1000000
namespace Pb
open PySem PySem.Spec L2
section
variable {X : Cx} {e a b c : Expr} {es : List Expr} {pos p : Pos} {m ma mb mc : M PyData} {ms : M (List PyData)}

/-! ### sorted -/
/-- an item as it stands: data, value, the model's value -/
theorem each_of {K : PySem.W.Frag} {F : Hp} : ∀ {ds : List PyData} {xs : List V} {us : List Value}, Dats K F xs ds → Vals xs us → PySem.W.EachIs (fun (u : Value) (b : PyData × V) => RelV b.2 u ∧ Dat K F b.2 b.1) us (ds.zip xs)
  | [], _, _, h, r => by cases h; cases r; exact .nil
  | d :: ds, _, _, h, r => by
    cases h with
    | cons h1 h2 =>
      cases r with
      | cons r1 r2 => exact .cons ⟨r1, h1⟩ (each_of h2 r2)
theorem each_back {K : PySem.W.Frag} {F : Hp} : ∀ {us : List Value} {bs : List (PyData × V)}, PySem.W.EachIs (fun (u : Value) (b : PyData × V) => RelV b.2 u ∧ Dat K F b.2 b.1) us bs → Vals (bs.map (·.2)) us ∧ Dats K F (bs.map (·.2)) (bs.map (·.1))
  | _, _, .nil => ⟨.nil, .nil⟩
  | _, _, .cons h r => ⟨.cons h.1 (each_back r).1, .cons h.2 (each_back r).2⟩
theorem zip_fst {α β : Type} : ∀ (l : List α) (r : List β), r.length = l.length → (l.zip r).map (·.1) = l
  | [], _, _ => rfl
  | _ :: _, [], h => by cases h
  | a :: l, b :: r, h => by
    rw [List.zip_cons_cons, List.map_cons, zip_fst l r (by simpa using h)]
theorem sortOk_all {ds : List PyData} (h : sortOk ds = true) : PySem.W.AllAlike ds ∧ PySem.W.Sortable ds ∧ ∀ d ∈ ds, d.depth ≤ 64 := by
  unfold sortOk at h
  simp only [Bool.and_eq_true, Bool.or_eq_true, List.all_eq_true, decide_eq_true_eq] at h
  obtain ⟨⟨h1, h2⟩, h3⟩ := h
  refine ⟨fun d hd d' hd' => h1 d hd d' hd', ?_, h3⟩
  rcases h2 with h2 | h2
  · refine .inl fun d hd => ?_
    have q := h2 d hd
    split at q
    · exact ⟨_, _, rfl⟩
    · cases q
  · refine .inr fun d hd => ?_
    have q := h2 d hd
    split at q
    · cases q
    · cases q
    · rename_i n1 n2
      exact ⟨fun z => n1 z, fun xs z => n2 xs z⟩
theorem cb_sorted (hu : X.A.units + 70 < cLine) : CallR X (.builtin "sorted") (rD1 X.K (opBi .sorted)) := by
  intro pins s σ H xs us Q I r ⟨B, ρ, σ', F, x, dx, d, ex, R, ho, hd, e, k⟩
  subst ex
  cases dx with
  | list ds =>
    have e' : (if sortOk ds = true ∧ ds.length ≤ lim then some (PyData.list (sortD ds)) else none) = some d := e
    split at e'
    · rename_i hc
      cases e'
      obtain ⟨a, ys, rfl, h1, h2, h3⟩ := ho.seq R.sub
      obtain ⟨u, rfl, ru⟩ := vals1 r
      cases ru
      obtain ⟨its, rv, hl, hz⟩ := I.list h1
      obtain ⟨ha, hs, hdp⟩ := sortOk_all hc.1
      have hlen := h3.len
      have e1 := zip_fst ds ys hlen
      have each := each_of h3 rv
      have er : PySem.W.EachIs (fun (v : Value) (b : PyData × V) => ∃ as, Reads s.heap v b.1 as) its (ds.zip ys) := each.mono fun v b ⟨q1, q2⟩ => Dp.reads I b.1 b.2 v (Dat.dp _ _ (Dat.mono R.sub _ _ q2)) q1
      refine PySem.W.sorted_data (enc := Prod.fst) hl.isList each er (by rw [e1]; exact ha) (by rw [e1]; exact hs) ?_ (fun b hb => ?_) fun out ho' eo => ?_
      · rw [List.length_zip, hlen, Nat.min_self]
        exact lim_le hc.2
      · have : b.1 ∈ ds := (List.of_mem_zip (show (b.1, b.2) ∈ ds.zip ys from hb)).1
        have := hdp _ this
        omega
      · obtain ⟨w1, w2⟩ := each_back eo
        have hsrt : ((ds.zip ys).mergeSort (PySem.W.dataLe false Prod.fst)).map (·.1) = sortD ds := by
          have q := PySem.W.sort_maps (r := PySem.W.dataLe false Prod.fst) (s := fun a b => !PySem.W.dataLt b a) (l := ds.zip ys) Prod.fst (fun a _ b _ => rfl)
          refine Eq.trans q ?_
          show ((ds.zip ys).map (·.1)).mergeSort _ = _
          rw [e1]
          rfl
        rw [hsrt] at w2
        obtain ⟨ep, he'⟩ := PyProof.Rows.sortedAll_at s.heap its (List.toArray out)
        have hle : (((ds.zip ys).mergeSort (PySem.W.dataLe false Prod.fst)).map (·.2)).length ≤ lim := by
          rw [List.length_map, List.length_mergeSort, List.length_zip, hlen, Nat.min_self]
          exact hc.2
        have hf : H (s.heap.objs.size + 1) = none := I.hok.fresh (Nat.le_succ _)
        refine ⟨.ref _, upd H (s.heap.objs.size + 1) (.lst (((ds.zip ys).mergeSort (PySem.W.dataLe false Prod.fst)).map (·.2))), I.laid (t' := s.toks) (fun _ _ => PyProof.Rows.sortedAll_old) (Nat.le_succ _) ⟨lim_le hle, out, ep, w1, he'⟩, rfl, ?_⟩
        exact k _ _ _ (upd_none (R.sub.free hf)) (datL hle w2 (R.sub.free hf)) (R.new hf)
    · cases e'
  | _ => cases e

/-! ### one argument, all -/
def biStr : Bi → String
  | .len => "len"
  | .all => "all"
  | .any => "any"
  | .tuple => "tuple"
  | .list => "list"
  | .str => "str"
  | .sorted => "sorted"
theorem t_bi {K : PySem.W.Frag} {g : PyData → Option PyData} {σ : St} {H : Hp} {Q : VK} (h : tE K (bnd ma fun x => ofO (g x)) σ H Q) : tCB (rD1 K g) (tCons (tE K ma) tNil) σ H Q := by
  obtain ⟨B, ρ, F, d, ρ', R, h1, k⟩ := h
  obtain ⟨x, ρ1, e1, h2⟩ := bnd_inv h1
  obtain ⟨e2, rfl⟩ := ofO_inv h2
  exact ⟨B, ρ, F, x, ρ1, R, e1, fun vx F1 H1 s1 dx R1 => ⟨B, ρ1, σ, F1, vx, x, d, rfl, R1, .inl dx, .inl dx, e2, fun v F' H' s q r => k v F' H' (s1.trans s) q r⟩⟩
theorem t_lenP {K : PySem.W.Frag} {σ : St} {H : Hp} {Q : VK} (h : tE K (bnd ma fun x => ofO (opBi .len x)) σ H Q) : tCB (rD1 K (opBi .len)) (tCons (tP K ma) tNil) σ H Q := by
  obtain ⟨B, ρ, F, d, ρ', R, h1, k⟩ := h
  obtain ⟨x, ρ1, e1, h2⟩ := bnd_inv h1
  obtain ⟨e2, rfl⟩ := ofO_inv h2
  have hn : ∃ n, d = .int n := by
    cases x with
    | list ds => cases e2; exact ⟨_, rfl⟩
    | tuple ds => cases e2; exact ⟨_, rfl⟩
    | str z =>
      have e' : (if z.length ≤ lim then some (PyData.int z.length) else none) = some d := e2
      split at e'
      · cases e'; exact ⟨_, rfl⟩
      · cases e'
    | _ => cases e2
  exact ⟨B, ρ, F, x, ρ1, R, e1, fun vx F1 H1 s1 dx R1 => ⟨B, ρ1, σ, F1, vx, x, d, rfl, R1, dx, .inr hn, e2, fun v F' H' s q r => k v F' H' (s1.trans s) q r⟩⟩
theorem ev_len {px : Pos} (ha : PE X a (tP X.K ma)) (hg : Gl X "len") (hm : X.mg "len" = none) (hs : starEach [a] X.env = (false, eval a X.env) :: starEach [] X.env) :
    PE X (.Call (.Name "len" px) [a] [] pos) (tE X.K (bnd ma fun x => ofO (opBi .len x))) := pe_imp (pe_callB cb_len hg hm PySem.boot_len (pa_cons ha pa_nil hs) (by decide) (by decide) hs) fun _ _ _ => t_lenP
theorem ev_bi {f : Bi} {px : Pos} (hf : f ≠ .len) (hu : X.A.units + 70 < cLine) (hc : X.calm = true) (ha : PE X a (tE X.K ma)) (hg : Gl X (biStr f)) (hm : X.mg (biStr f) = none) (hs : starEach [a] X.env = (false, eval a X.env) :: starEach [] X.env) :
    PE X (.Call (.Name (biStr f) px) [a] [] pos) (tE X.K (bnd ma fun x => ofO (opBi f x))) := by
  cases f with
  | len => exact absurd rfl hf
  | all => exact pe_imp (pe_callB (cb_all hc) hg hm PyProof.Rows.boot_all (pa_cons ha pa_nil hs) (by decide) (by decide) hs) fun _ _ _ => t_bi
  | any => exact pe_imp (pe_callB (cb_any hc) hg hm PyProof.Rows.boot_any (pa_cons ha pa_nil hs) (by decide) (by decide) hs) fun _ _ _ => t_bi
  | tuple => exact pe_imp (pe_callTy cb_tuple hg hm PyProof.Rows.boot_tuple (pa_cons ha pa_nil hs) (by decide) (by decide) hs) fun _ _ _ => t_bi
  | list => exact pe_imp (pe_callTy cb_list hg hm PyProof.Rows.boot_list (pa_cons ha pa_nil hs) (by decide) (by decide) hs) fun _ _ _ => t_bi
  | str => exact pe_imp (pe_callTy cb_str hg hm PyProof.Rows.boot_str (pa_cons ha pa_nil hs) (by decide) (by decide) hs) fun _ _ _ => t_bi
  | sorted => exact pe_imp (pe_callB (cb_sorted hu) hg hm PyProof.Rows.boot_sorted (pa_cons ha pa_nil hs) (by decide) (by decide) hs) fun _ _ _ => t_bi

/-! ### subscripts, slices -/
theorem atI_len {α β : Type} {xs : List α} {ys : List β} {i : Int} {y : β} (hl : xs.length = ys.length) (h : atI ys i = some y) : ∃ j : Nat, ys[j]? = some y ∧ ∀ x, xs[j]? = some x → atI xs i = some x := by
  unfold atI at h ⊢
  rw [hl]
  cases e : ixN ys.length i with
  | none => rw [e] at h; cases h
  | some j =>
    rw [e] at h
    exact ⟨j, h, fun x hx => hx⟩
theorem ix_data : IxR X (rP X.K opIdx) := by
  intro value slice pins s σ H x y v u Q I rx ry ⟨B, ρ, σ', F, dx, dy, d, R, hx, hy, e, k⟩ hs
  cases dy with
  | int i =>
    have hy' := hy.dat R.sub
    cases hy'
    cases dx with
    | list ds =>
      have e' : atI ds i = some d := e
      obtain ⟨a, xs, rfl, h1, h2, h3⟩ := hx.seq R.sub
      obtain ⟨j, q1, q2⟩ := atI_len h3.len e'
      obtain ⟨w, q3, q4⟩ := h3.get q1
      exact ix_list value slice pins s σ H _ _ v u Q I rx ry ⟨a, xs, i, w, rfl, rfl, h1, q2 w q3, k _ F H (Same.refl F) q4 R⟩ hs
    | tuple ds =>
      have e' : atI ds i = some d := e
      cases hx.tup with
      | tup h1 h2 h3 =>
        obtain ⟨j, q1, q2⟩ := atI_len h3.len e'
        obtain ⟨w, q3, q4⟩ := h3.get q1
        exact ix_tup value slice pins s σ H _ _ v u Q I rx ry ⟨_, _, i, w, rfl, rfl, sameT R.sub h1, q2 w q3, k _ F H (Same.refl F) q4 R⟩ hs
    | _ => cases e
  | _ => cases dx <;> cases e
theorem ev_idx {ia : Option Nat} (ha : PE X a (tL X.K ia ma)) (hb : PE X b (tE X.K mb)) (hs : PlainIx b) : PE X (.Subscript a b pos) (tE X.K (two ia ma mb fun x y => ofO (opIdx x y))) :=
  pe_imp (pe_ix ix_data ha (ep_of hb) hs) fun _ _ _ h => t_two h
theorem cut_dats {K : PySem.W.Frag} {F : Hp} {xs : List V} {ds : List PyData} (h : Dats K F xs ds) (lo hi : Option Int) : Dats K F (cutV xs lo hi) (cutD ds lo hi) := by
  unfold cutV cutD
  rw [h.len]
  exact (h.drop _).take _
theorem cut_len {ds : List PyData} (lo hi : Option Int) : (cutD ds lo hi).length ≤ ds.length := by
  unfold cutD
  rw [List.length_take, List.length_drop]
  omega
theorem cut_whole {ds : List PyData} {lo hi : Option Int} (h : HT.sIx ds.length 0 lo = 0 ∧ HT.sIx ds.length ds.length hi = ds.length) : cutD ds lo hi = ds := by
  unfold cutD
  rw [h.1, h.2]
  simp
def rSlD (K : PySem.W.Frag) : V → Option Int → Option Int → Hp → VK → Prop := fun x lo hi H Q => ∃ (B : Bs) (ρ : Rho) (σ : St) (F : Hp) (dx d : PyData), Rp K B ρ σ F H ∧ Dat K F x dx ∧ opSl lo hi dx = some d ∧
  ∀ v F' H', Same F F' → Dat K F' v d → Rp K B ρ σ F' H' → Q v H'
theorem sl_data : SlR X (rSlD X.K) := by
  intro pins s σ H x v vl vu lo hi sl Q I rx hs pl pu ⟨B, ρ, σ', F, dx, d, R, hx, e, k⟩
  cases hx with
  | @lst a xs ds h1 h2 h3 =>
    cases e
    have hl : (cutV xs lo hi).length ≤ lim := Nat.le_trans (cutV_length xs lo hi) h2
    exact sl_list pins s σ H _ v vl vu lo hi sl Q I rx hs pl pu ⟨a, xs, rfl, R.sub.seq h1, fun p hp => k _ _ _ (upd_none (R.sub.free hp)) (datL hl (cut_dats h3 lo hi) (R.sub.free hp)) (R.new hp)⟩
  | @tup a xs ds h1 h2 h3 =>
    cases e
    have hl : (cutV xs lo hi).length ≤ lim := Nat.le_trans (cutV_length xs lo hi) h2
    refine sl_tupA pins s σ H _ v vl vu lo hi sl Q I rx hs pl pu ⟨a, xs, rfl, sameT R.sub h1, fun hw => ?_, fun _ p hp => k _ _ _ (upd_none (R.sub.free hp)) (datT hl (cut_dats h3 lo hi) (R.sub.free hp)) (R.new hp)⟩
    rw [h3.len] at hw
    have := cut_whole hw
    refine k _ F H (Same.refl F) ?_ R
    rw [this]
    exact .tup h1 h2 h3
  | _ => cases e
theorem asI_dat {K : PySem.W.Frag} {F : Hp} {v : V} {d : PyData} {i : Int} (h : Dat K F v d) (e : asI d = some i) : v = .int i := by
  cases h <;> cases e
  rfl
theorem ev_slTo {p2 : Pos} (ha : PE X a (tE X.K ma)) (hb : PE X b (tE X.K mb)) : PE X (.Subscript a (.Slice none (some b) none p2) pos) (tE X.K (bnd ma fun x => bnd mb fun y => ofO ((asI y).bind fun j => opSl none (some j) x))) :=
  pe_imp (pe_slice sl_data ha po_none (po_some hb)) fun σ H Q ⟨B, ρ, F, d, ρ', R, h1, k⟩ => by
  obtain ⟨x, ρ1, e1, h2⟩ := bnd_inv h1
  obtain ⟨y, ρ2, e2, h3⟩ := bnd_inv h2
  obtain ⟨e3, rfl⟩ := ofO_inv h3
  obtain ⟨j, e4, e5⟩ := Option.bind_eq_some_iff.mp e3
  refine ⟨B, ρ, F, x, ρ1, R, e1, fun vx F1 H1 s1 dx R1 => ⟨B, ρ1, F1, y, ρ2, R1, e2, fun vy F2 H2 s2 dy R2 => ?_⟩⟩
  exact ⟨j, asI_dat dy e4, B, ρ2, σ, F2, x, d, R2, Dat.mono s2 _ _ dx, e5, fun v F' H' s q r => k v F' H' ((s1.trans s2).trans s) q r⟩
theorem ev_slFrom {p2 : Pos} (ha : PE X a (tE X.K ma)) (hb : PE X b (tE X.K mb)) : PE X (.Subscript a (.Slice (some b) none none p2) pos) (tE X.K (bnd ma fun x => bnd mb fun y => ofO ((asI y).bind fun j => opSl (some j) none x))) :=
  pe_imp (pe_slice sl_data ha (po_some hb) po_none) fun σ H Q ⟨B, ρ, F, d, ρ', R, h1, k⟩ => by
  obtain ⟨x, ρ1, e1, h2⟩ := bnd_inv h1
  obtain ⟨y, ρ2, e2, h3⟩ := bnd_inv h2
  obtain ⟨e3, rfl⟩ := ofO_inv h3
  obtain ⟨j, e4, e5⟩ := Option.bind_eq_some_iff.mp e3
  refine ⟨B, ρ, F, x, ρ1, R, e1, fun vx F1 H1 s1 dx R1 => ⟨B, ρ1, F1, y, ρ2, R1, e2, fun vy F2 H2 s2 dy R2 => ?_⟩⟩
  exact ⟨j, asI_dat dy e4, B, ρ2, σ, F2, x, d, R2, Dat.mono s2 _ _ dx, e5, fun v F' H' s q r => k v F' H' ((s1.trans s2).trans s) q r⟩
end
end Pb
end

section
set_option Elab.async false
set_option linter.all false
set_option maxRecDepth 100000
set_option maxHeartbeats 1000000
namespace Pb
open PySem PySem.Spec L2 PyProof.Rows
/-! ### t[::-1] -/
section
variable {prog : Program} {w : World} {A : Around} {E : Value → Shared → Prop} {s : Shared}
theorem places_rev (n : Nat) : Builtin.Slice.slicePlaces ((n : Int) - 1) (-1) (-1) = n := by
  unfold Builtin.Slice.slicePlaces
  have h1 : ¬ ((-1 : Int) > 0) := by omega
  have h2 : -(-1 : Int) = 1 := by omega
  simp only [h1, if_false, h2, Int.ediv_one]
  split <;> omega
theorem applied_rev {sl : Addr} {v1 v2 v3 : Value} {n : Nat} {Q : Int × Int × Nat → Shared → Prop} (hs : s.heap.IsSliceOf sl v1 v2 v3) (p1 : IsPart v1 none) (p2 : IsPart v2 none) (p3 : IsPart v3 (some (-1)))
    (h : Q ((n : Int) - 1, -1, n) s) : wpAny (model prog w) A (Builtin.Slice.sliceApplied (.ref sl) (pure (n : Int))) Q E s := by
  obtain ⟨ob, hob, hcl, hdt⟩ := id hs
  unfold Builtin.Slice.sliceApplied Builtin.Slice.sliceFields
  have f1 : ∀ {R : Value → Shared → Prop}, R v1 s → wpAny (model prog w) A (field (.ref sl) 0) R E s := fun q => wpAny_field hob hdt (x := v1) rfl q
  have f2 : ∀ {R : Value → Shared → Prop}, R v2 s → wpAny (model prog w) A (field (.ref sl) 1) R E s := fun q => wpAny_field hob hdt (x := v2) rfl q
  have f3 : ∀ {R : Value → Shared → Prop}, R v3 s → wpAny (model prog w) A (field (.ref sl) 2) R E s := fun q => wpAny_field hob hdt (x := v3) rfl q
  refine wpAny_bind (wpAny_bind (f1 (wpAny_bind (f2 (wpAny_bind (f3 (wpAny_pure ?_)))))))
  refine wpAny_bind (HT.slicePart_ p3 ?_)
  show wpAny _ _ (if ((-1 : Int) == 0) = true then _ else _) _ _ s
  rw [if_neg (by decide)]
  refine wpAny_bind (HT.slicePart_ p1 (wpAny_bind (HT.slicePart_ p2 (wpAny_bind (wpAny_pure ?_)))))
  show wpAny _ _ (pure ((n : Int) - 1, (-1 : Int), Builtin.Slice.slicePlaces ((n : Int) - 1) (-1) (-1))) _ _ s
  rw [places_rev]
  exact wpAny_pure h
theorem fm_congr {α β : Type} {f g : α → Option β} : ∀ {l : List α}, (∀ x ∈ l, f x = g x) → l.filterMap f = l.filterMap g
  | [], _ => rfl
  | x :: l, h => by
    rw [List.filterMap_cons, List.filterMap_cons, h x (List.mem_cons_self ..), fm_congr fun y hy => h y (List.mem_cons_of_mem _ hy)]
theorem fm_range {α : Type} : ∀ (r : List α), (List.range r.length).filterMap (fun m => r[m]?) = r
  | [] => rfl
  | x :: r => by
    rw [List.length_cons, List.range_succ_eq_map, List.filterMap_cons, List.filterMap_map]
    simp only [List.getElem?_cons_zero]
    have := fm_range r
    show x :: List.filterMap (fun m => (x :: r)[m + 1]?) (List.range r.length) = x :: r
    simp only [List.getElem?_cons_succ]
    rw [this]
theorem pick_rev (xs : Array Value) : ((List.range xs.size).filterMap fun (m : Nat) => xs[(((xs.size : Int) - 1) + (m : Int) * -1).toNat]?).toArray = xs.toList.reverse.toArray := by
  congr 1
  obtain ⟨l⟩ := xs
  simp only [List.size_toArray]
  have e : ∀ m ∈ List.range l.length, l.toArray[(((l.length : Int) - 1) + (m : Int) * -1).toNat]? = l.reverse[m]? := fun m hm => by
    have hm' : m < l.length := List.mem_range.mp hm
    have : (((l.length : Int) - 1) + (m : Int) * -1).toNat = l.length - 1 - m := by omega
    rw [this, List.getElem?_toArray, List.getElem?_reverse hm']
  refine (fm_congr e).trans ?_
  have hl : l.length = l.reverse.length := by simp
  rw [hl]
  exact fm_range _
theorem getItem_tuple_rev {t sl : Addr} {xs : Array Value} {v1 v2 v3 : Value} {Q : Value → Shared → Prop} (ht : IsTup s.heap t xs) (hs : s.heap.IsSliceOf sl v1 v2 v3) (p1 : IsPart v1 none) (p2 : IsPart v2 none) (p3 : IsPart v3 (some (-1)))
    (h : Q (.ref s.heap.objs.size) { s with heap := s.heap.push { cls := .type "tuple", data := .seq xs.toList.reverse.toArray } }) (hz : xs.size ≤ sizeLine) : wpAny (model prog w) A (getItem (.ref t) (.ref sl)) Q E s := by
  have hsz : sizeOk (.seq xs.toList.reverse.toArray) := by
    show xs.toList.reverse.toArray.size ≤ sizeLine
    simpa using hz
  obtain ⟨ob, hob, hcl, hdt⟩ := id hs
  have hTs : s.TypeIs (.ref sl) "slice" := ⟨ob, hob, hcl⟩
  unfold getItem
  try with_reducible refine wpAny_holding ?_
  first | refine wpAny_bind (wpAny_pure ?_) | skip
  refine wpAny_bind (wpAny_sequenceKey ht.typeIs (by decide) ?_)
  refine wpAny_bind (wpAny_callSpecial?_slot (name := Str.ofString "__getitem__") ht.typeIs slot_tuple_getitem
    (wpAny_call_entry slot_tuple_getitem ht.typeIs entry_tuple_getitem ?_ (args_tuple_getitem _ _)))
  show wpAny _ _ (Builtin.Tuple.tupleItemsOf (.ref t) >>= _) _ _ s
  refine wpAny_bind (tupleItemsOf_ ht ?_)
  refine wpAny_bind (wpAny_typeOf hTs ?_)
  rw [if_pos (by decide)]
  refine wpAny_bind (applied_rev hs p1 p2 p3 ?_)
  have hno : ¬ ((((xs.size : Int) - 1) == 0 && (-1 : Int) == 1 && xs.size == xs.size) = true) := by
    intro q
    simp at q
  show wpAny _ _ (if (((xs.size : Int) - 1) == 0 && (-1 : Int) == 1 && xs.size == xs.size) = true then _ else _) _ _ s
  rw [if_neg hno, pick_rev]
  first
    | exact wpAny_bind (m := Builtin.Tuple.tupleExact _) (wpAny_newObj_type (wpAny_pure ⟨_, rfl, wpAny_pure h⟩) hsz)
    | exact wpAny_bind (m := Builtin.Tuple.tupleExact _) (wpAny_newObj_type (wpAny_bind (wpAny_pure (wpAny_pure ⟨_, rfl, wpAny_pure h⟩))) hsz)
    | exact wpAny_bind (wpAny_bind (m := Builtin.Tuple.tupleExact _) (wpAny_newObj_type (wpAny_pure (wpAny_pure ⟨_, rfl, wpAny_pure h⟩)) hsz))
    | exact wpAny_bind (wpAny_bind (m := Builtin.Tuple.tupleExact _) (wpAny_newObj_type (wpAny_pure ⟨_, rfl, wpAny_pure h⟩) hsz))
end
section
variable {X : Cx} {e a b c : Expr} {es : List Expr} {pos p : Pos} {m ma mb mc : M PyData} {ms : M (List PyData)}
def tRevD (K : PySem.W.Frag) (te : TE) : TE := fun σ H Q => te σ H fun x H1 => ∃ (B : Bs) (ρ : Rho) (σ' : L2.St) (F : Hp) (dx d : PyData), Rp K B ρ σ' F H1 ∧ Dat K F x dx ∧ opRev dx = some d ∧
  ∀ v F' H', Same F F' → Dat K F' v d → Rp K B ρ σ' F' H' → Q v H'
theorem pe_revD {te : TE} {k : Nat} {p1 p2 p3 pos : Pos} (he : PE X e te) : PE X (.Subscript e (.Slice none none (some (.UnaryOp .USub (.Constant (.int 1) k p1) p2)) p3) pos) (tRevD X.K te) := by
  refine ⟨fun pins s σ H Q I h => ?_⟩
  refine Subscript_ (thn (he.run pins s σ H _ I h) fun v s1 ⟨x, H1, I1, r1, q1⟩ => ?_)
  obtain ⟨B, ρ, σ', F, dx, d, R, hx, er, kk⟩ := q1
  have hst : PO X (some (.UnaryOp .USub (.Constant (.int 1) k p1) p2)) (tPart (tUn (rU fun i => .int (-i)) (tC (.int 1)))) := po_some (pe_un un_neg pe_int)
  refine wpAny_Slice (thn (po_none.run pins s1 σ H1 (fun o H2 => o = none ∧ H2 = H1) I1 ⟨rfl, rfl⟩) fun w1 s2 ⟨l, H2, I2, pl, el, e2⟩ => ?_)
  subst el e2
  refine thn (po_none.run pins s2 σ H2 (fun o H3 => o = none ∧ H3 = H2) I2 ⟨rfl, rfl⟩) fun w2 s3 ⟨u, H3, I3, pu, eu, e3⟩ => ?_
  subst eu e3
  refine thn (hst.run pins s3 σ H3 (fun o H4 => o = some (-1) ∧ H4 = H3) I3 ⟨1, rfl, -1, rfl, rfl, rfl⟩) fun w3 s4 ⟨o, H4, I4, ps, eo, e4⟩ => ?_
  subst eo e4
  have I5 : Inv X pins σ H4 { s4 with heap := s4.heap.push { cls := .type "slice", data := .fields #[w1, w2, w3] } } := I4.kept (t' := s4.toks) fun b ob q => Heap.get?_push_of_some _ q
  have hf := I5.hok.fresh (Nat.le_refl (s4.heap.push { cls := .type "slice", data := .fields #[w1, w2, w3] }).objs.size)
  cases hx with
  | @lst a xs ds h1 h2 h3 =>
    cases er
    cases r1
    obtain ⟨its, r, ht, hz⟩ := I5.list (R.sub.seq h1)
    have hlen := r.length
    refine tail_any (ops := [.ref a, .ref s4.heap.objs.size]) ht.isList.typeIs (PySem.slot_list_getitem.lookup) ?_ (by with_unfolding_all rfl)
    refine wpAny_getItem_list_slice ht.isList (Heap.IsSliceOf.new _ w1 w2 w3) pl pu ps (by decide) ?_ (by rw [List.size_toArray]; omega)
    rw [PySem.W.krv_pick]
    have hl : xs.reverse.length ≤ lim := by rw [List.length_reverse]; exact h2
    refine ⟨.ref _, _, I5.laid (t' := s4.toks) (o := .lst xs.reverse) (fun b ob q => Heap.get?_push_of_some _ q) (Nat.le_refl _) ?_, rfl, kk _ _ _ (upd_none (R.sub.free hf)) (datL hl h3.rev (R.sub.free hf)) (R.new hf)⟩
    exact ⟨lim_le hl, _, 0, r.reverse, Heap.get?_push_size _ rfl⟩
  | @tup a xs ds h1 h2 h3 =>
    cases er
    cases r1
    obtain ⟨its, r, ht, hz⟩ := I5.tuple (sameT R.sub h1)
    have hlen := r.length
    refine tail_any (ops := [.ref a, .ref s4.heap.objs.size]) ht.typeIs (slot_tuple_getitem.lookup) ?_ (by with_unfolding_all rfl)
    refine getItem_tuple_rev ht (Heap.IsSliceOf.new _ w1 w2 w3) pl pu ps ?_ (by rw [List.size_toArray]; omega)
    have hl : xs.reverse.length ≤ lim := by rw [List.length_reverse]; exact h2
    refine ⟨.ref _, _, I5.laid (t' := s4.toks) (o := .tup xs.reverse) (fun b ob q => Heap.get?_push_of_some _ q) (Nat.le_refl _) ?_, rfl, kk _ _ _ (upd_none (R.sub.free hf)) (datT hl h3.rev (R.sub.free hf)) (R.new hf)⟩
    exact ⟨lim_le hl, its.reverse, r.reverse, ⟨_, Heap.get?_push_size _ rfl, rfl, _, rfl⟩⟩
  | _ => cases er
theorem ev_rev {k : Nat} {p1 p2 p3 pos : Pos} (he : PE X e (tE X.K m)) : PE X (.Subscript e (.Slice none none (some (.UnaryOp .USub (.Constant (.int 1) k p1) p2)) p3) pos) (tE X.K (bnd m fun x => ofO (opRev x))) :=
  pe_imp (pe_revD he) fun σ H Q ⟨B, ρ, F, d, ρ', R, h1, k⟩ => by
  obtain ⟨x, ρ1, e1, h2⟩ := bnd_inv h1
  obtain ⟨e2, rfl⟩ := ofO_inv h2
  exact ⟨B, ρ, F, x, ρ1, R, e1, fun vx F1 H1 s1 dx R1 => ⟨B, ρ1, σ, F1, x, d, R1, dx, e2, fun v F' H' s q r => k v F' H' (s1.trans s) q r⟩⟩
end
end Pb
end

section
set_option Elab.async false
set_option linter.all false
set_option maxRecDepth 100000
set_option maxHeartbeats 1000000
namespace Pb
open PySem PySem.Spec L2
/-! ### calls of defs -/
/-- what a def promises: it is worth what C says; a list may be lent to it -/
def spF (K : PySem.W.Frag) (C : List Vl → Option (Vl × Slt)) : Sp := fun vs H Q _ =>
  (∃ F ds x s, Same F H ∧ Dats K F vs ds ∧ C (ds.map .dat) = some (x, s) ∧ ∀ v ρ' σ' F' H', Rp K ⟨H, F, [], []⟩ ρ' σ' F' H' → ResV K ⟨H, F, [], []⟩ ρ' σ' F' H' v x → Q v H') ∨
  (∃ F a ws own ds x own', vs = .ref a :: ws ∧ Same F H ∧ LstAt K F H (.ref a) own ∧ Dats K F ws ds ∧ C (.lnt own :: ds.map .dat) = some (x, some (.lnt own')) ∧
    ∀ v ρ' σ' F' H', Rp K ⟨H, F, [a], []⟩ ρ' σ' F' H' → LstAt K F' H' (.ref a) own' → ResV K ⟨H, F, [a], []⟩ ρ' σ' F' H' v x → Q v H')
/-- the def f stands there, and keeps it -/
def FnAt (X : Cx) (f : Str) (C : List Vl → Option (Vl × Slt)) : Prop := ∃ k fa fd ps, FnOk X.prog X.w X.K X.mg X.base CX0 k fa fd ps (spF X.K C) ∧ Room k X.A ∧ X.mg f = some (.ref fa) ∧ PySem.W.keepIn X.K (.ref fa) = true ∧ Binds X.K fd ps []
section
variable {X : Cx} {a b c : Expr} {es : List Expr} {pos p : Pos} {m ma mb mc : M PyData} {ms : M (List PyData)} {f : Str} {C : Ctx}
theorem new_dat {K : PySem.W.Frag} {B : Bs} {ρ ρ' : Rho} {σ σ' : St} {F F1 H H1 : Hp} {v : V} {ds : List PyData} (R : Rp K B ρ σ F H) (R' : Rp K ⟨H, F, [], []⟩ ρ' σ' F1 H1) (h : NewL K ⟨H, F, [], []⟩ ρ' σ' F1 H1 v ds) :
    ∃ F2, Same F1 F2 ∧ Dat K F2 v (.list ds) ∧ Rp K B ρ σ F2 H1 := by
  obtain ⟨a, xs, rfl, h1, h2, h3, h4, h5, h6, h7⟩ := h
  have R2 := R.after R'
  have hH : H a = none := h5
  exact ⟨upd F1 a (.lst xs), upd_none h1, datL h3 h4 h1, R2.freezeNew h2 h1 (R.fresh_H0 hH) (R.fresh_mine hH) (R.fresh_ex hH)⟩
theorem t_call {K : PySem.W.Frag} {σ : St} {H : Hp} {Q : VK} (h : tE K (bnd ms fun ds => doCall C f ds) σ H Q) : tCall (spF K (C.fn f)) [] E0 (tA K ms) σ H Q := by
  obtain ⟨B, ρ, F, d, ρ', R, h1, k⟩ := h
  obtain ⟨ds, ρ1, e1, h2⟩ := bnd_inv h1
  refine ⟨B, ρ, F, ds, ρ1, R, e1, fun vs F1 H1 s1 dv R1 => ?_⟩
  show spF K (C.fn f) (vs ++ []) H1 Q E0
  rw [List.append_nil]
  unfold doCall at h2
  rcases ec : C.fn f (ds.map .dat) with _ | ⟨x | x | x, s'⟩ <;> rw [ec] at h2
  · exact (fail_inv h2).elim
  · obtain ⟨rfl, rfl⟩ := ret_inv h2
    exact .inl ⟨F1, ds, _, _, R1.sub, dv, ec, fun v ρ2 σ2 F2 H2 R2 hv => k v F2 H2 (s1.trans R2.ext) hv (R1.after R2)⟩
  · obtain ⟨rfl, rfl⟩ := ret_inv h2
    refine .inl ⟨F1, ds, _, _, R1.sub, dv, ec, fun v ρ2 σ2 F2 H2 R2 hv => ?_⟩
    obtain ⟨F3, q1, q2, q3⟩ := new_dat R1 R2 hv
    exact k v F3 H2 (s1.trans (Same.trans R2.ext q1)) q2 q3
  · exact (fail_inv h2).elim
theorem ev_call {px : Pos} (hF : FnAt X f (C.fn f)) (hg : Gl X f) (hdb : (f == ("__debug__" : Str)) = false) (ha : PA X (a :: es) (tA X.K ms)) (hs : starEach (a :: es) X.env = (false, eval a X.env) :: starEach es X.env)
    (hpl : (backTo pos (starEach es X.env)).any (·.1) = false) : PE X (.Call (.Name f px) (a :: es) [] pos) (tE X.K (bnd ms fun ds => doCall C f ds)) := by
  obtain ⟨k, fa, fd, ps, hk, hr, hm, hkp, hb⟩ := hF
  exact pe_imp (pe_call hk hr hg hm hkp hb .nil pass0 ha hdb hs hpl) fun _ _ _ => t_call
theorem ev_call0 {px : Pos} (hF : FnAt X f (C.fn f)) (hg : Gl X f) (hdb : (f == ("__debug__" : Str)) = false) : PE X (.Call (.Name f px) [] [] pos) (tE X.K (bnd (ret []) fun ds => doCall C f ds)) := by
  obtain ⟨k, fa, fd, ps, hk, hr, hm, hkp, hb⟩ := hF
  refine pe_imp (pe_call0 hk hr hg hm hkp hb .nil pass0 hdb) fun σ H Q h => ?_
  obtain ⟨B, ρ, F, ds, ρ1, R, e1, kk⟩ := t_call h
  obtain ⟨rfl, rfl⟩ := ret_inv e1
  exact kk [] F H (Same.refl F) .nil R
/-- a call to which the list in slot i is lent -/
theorem t_io {K : PySem.W.Frag} {i : Nat} {σ : St} {H : Hp} {Q : VK} (h : tE K (bnd (pk i) fun _ => bnd ms fun ds => doIo C f i ds) σ H Q) : tCall (spF K (C.fn f)) [] E0 (tCons (tVar i) (tA K ms)) σ H Q := by
  obtain ⟨B, ρ, F, d, ρ', R, h1, k⟩ := h
  obtain ⟨_, ρ0, e0, h2⟩ := bnd_inv h1
  obtain ⟨v0, hv, _, rfl⟩ := pk_run R e0
  obtain ⟨ds, ρ1, e1, h3⟩ := bnd_inv h2
  refine ⟨v0, hv, B, ρ0, F, ds, ρ1, R, e1, fun vs F1 H1 s1 dv R1 => ?_⟩
  show spF K (C.fn f) ((v0 :: vs) ++ []) H1 Q E0
  rw [List.append_nil]
  unfold doIo at h3
  obtain ⟨own, ρ2, e2, h4⟩ := bnd_inv h3
  have hx : ∃ x, ρ1[i]? = some (some x) ∧ x.own = true ∧ (x = .lst own ∨ x = .lnt own) ∧ ρ2 = ρ1 := by
    unfold ownL at e2
    split at e2
    · rename_i q; cases e2; exact ⟨_, q, rfl, .inl rfl, rfl⟩
    · rename_i q; cases e2; exact ⟨_, q, rfl, .inr rfl, rfl⟩
    · cases e2
  obtain ⟨x, hx1, hx2, hx3, rfl⟩ := hx
  obtain ⟨v1, w1, w2⟩ := R1.slot i x hx1
  rw [hv] at w1
  cases w1
  have hL : LstAt K F1 H1 v0 own := by
    rcases hx3 with rfl | rfl
    · exact w2
    · exact w2
  obtain ⟨a, xs, rfl, l1, l2, l3, l4⟩ := hL
  rcases ec : C.fn f (.lnt own :: ds.map .dat) with _ | ⟨y | y | y, _ | z | z | own'⟩ <;> rw [ec] at h4 <;> first | exact (fail_inv h4).elim | skip
  · obtain ⟨_, ρ3, e5, h5⟩ := bnd_inv h4
    obtain ⟨rfl, rfl⟩ := ret_inv h5
    have hw : ρ3 = ρ2.set i (some (x.wr own')) := by
      unfold wr at e5
      rw [hx1] at e5
      rcases hx3 with rfl | rfl
      · cases e5; rfl
      · cases e5; rfl
    subst hw
    refine .inr ⟨F1, a, vs, own, ds, _, own', rfl, R1.sub, ⟨a, xs, rfl, l1, l2, l3, l4⟩, dv, ec, fun v ρ4 σ4 F4 H4 R4 hL4 hv4 => ?_⟩
    exact k v F4 H4 (s1.trans R4.ext) hv4 (R1.afterIo hx1 hx2 hv R4 hL4)
theorem ev_io {px q : Pos} {x : Str} {i : Nat} (hF : FnAt X f (C.fn f)) (hg : Gl X f) (hdb : (f == ("__debug__" : Str)) = false) (hv : PE X (.Name x q) (tVar i)) (ha : PA X es (tA X.K ms))
    (hpl : (backTo pos (starEach es X.env)).any (·.1) = false) : PE X (.Call (.Name f px) (.Name x q :: es) [] pos) (tE X.K (bnd (pk i) fun _ => bnd ms fun ds => doIo C f i ds)) := by
  obtain ⟨k, fa, fd, ps, hk, hr, hm, hkp, hb⟩ := hF
  exact pe_imp (pe_call hk hr hg hm hkp hb .nil pass0 (pa_cons hv ha rfl) hdb rfl hpl) fun _ _ _ => t_io
/-- a call whose new list a name takes as its own -/
theorem t_callO {K : PySem.W.Frag} {σ : St} {H : Hp} {Q : VK} (h : tO K (bnd ms fun ds => match C.fn f (ds.map .dat) with | some (.lst ds, _) => ret (.lst ds) | _ => fail) σ H Q) : tCall (spF K (C.fn f)) [] E0 (tA K ms) σ H Q := by
  obtain ⟨B, ρ, F, d, ρ', R, h1, k⟩ := h
  obtain ⟨ds, ρ1, e1, h2⟩ := bnd_inv h1
  refine ⟨B, ρ, F, ds, ρ1, R, e1, fun vs F1 H1 s1 dv R1 => ?_⟩
  show spF K (C.fn f) (vs ++ []) H1 Q E0
  rw [List.append_nil]
  rcases ec : C.fn f (ds.map .dat) with _ | ⟨x | x | x, s'⟩ <;> rw [ec] at h2 <;> first | exact (fail_inv h2).elim | skip
  · obtain ⟨rfl, rfl⟩ := ret_inv h2
    refine .inl ⟨F1, ds, _, _, R1.sub, dv, ec, fun v ρ2 σ2 F2 H2 R2 hv => ?_⟩
    refine k v F2 H2 (s1.trans R2.ext) ?_ (R1.after R2)
    obtain ⟨a, xs, rfl, h1, h2, h3, h4, h5, h6, h7⟩ := hv
    have hH : H1 a = none := h5
    exact ⟨a, xs, rfl, h1, h2, h3, h4, R1.fresh_H0 hH, R1.fresh_mine hH, R1.fresh_ex hH⟩
theorem eo_call {px : Pos} (hF : FnAt X f (C.fn f)) (hg : Gl X f) (hdb : (f == ("__debug__" : Str)) = false) (ha : PA X (a :: es) (tA X.K ms)) (hs : starEach (a :: es) X.env = (false, eval a X.env) :: starEach es X.env)
    (hpl : (backTo pos (starEach es X.env)).any (·.1) = false) : PE X (.Call (.Name f px) (a :: es) [] pos) (tO X.K (bnd ms fun ds => match C.fn f (ds.map .dat) with | some (.lst ds, _) => ret (.lst ds) | _ => fail)) := by
  obtain ⟨k, fa, fd, ps, hk, hr, hm, hkp, hb⟩ := hF
  exact pe_imp (pe_call hk hr hg hm hkp hb .nil pass0 ha hdb hs hpl) fun _ _ _ => t_callO
/-! ### new lists that a name takes as its own -/
def oL (m : M PyData) : M Vl := bnd m fun
    | .list ds => ret (.lst ds)
    | _ => fail
theorem eo_lst (h : PA X es (tA X.K ms)) : PE X (.List es pos) (tO X.K (oL (bnd ms fun ds => if ds.length ≤ lim then ret (.list ds) else fail))) := pe_imp (pe_lst h) fun σ H Q ⟨B, ρ, F, d, ρ', R, h1, k⟩ => by
  obtain ⟨y, ρ0, e0, h0⟩ := bnd_inv h1
  obtain ⟨x, ρ1, e1, h2⟩ := bnd_inv e0
  split at h2
  · rename_i hl
    obtain ⟨rfl, rfl⟩ := ret_inv h2
    obtain ⟨rfl, rfl⟩ := ret_inv h0
    refine ⟨B, ρ, F, x, ρ1, R, e1, fun vs F1 H1 s1 dx R1 => ?_⟩
    have hl' : vs.length ≤ lim := by rw [dx.len]; exact hl
    exact ⟨lim_le hl', fun p hp => k _ _ _ s1 ⟨p, vs, rfl, R1.sub.free hp, upd_same, hl', dx, R1.fresh_H0 hp, fun j m => R1.fresh_mine hp j m, R1.fresh_ex hp⟩ (R1.newH hp)⟩
  · exact (fail_inv h2).elim
theorem cb_listO : CallR X (.type "list") (fun xs H Q => ∃ (B : Bs) (ρ : Rho) (σ : St) (F : Hp) (x : V) (dx : PyData) (ds : List PyData), xs = [x] ∧ Rp X.K B ρ σ F H ∧ Dat X.K F x dx ∧ opBi .list dx = some (.list ds) ∧
    ∀ v H', NewL X.K B ρ σ F H' v ds → Rp X.K B ρ σ F H' → Q v H') := by
  intro pins s σ H xs us Q I r ⟨B, ρ, σ', F, x, dx, es, ex, R, hd, e, k⟩
  subst ex
  have fin : ∀ {a : Addr} {ys : List V}, (SqL X.K H a ys ∨ SqT X.K H a ys) → ys.length ≤ lim → Dats X.K F ys es → x = .ref a → wpAny (model X.prog X.w) X.A (call (.type "list") us) (EP X pins σ Q) X.xe s := fun {a ys} h1 h2 h3 ea => by
    subst ea
    exact call_list_of pins s σ H _ us Q I r ⟨a, ys, rfl, h1, fun l hl => k _ _ ⟨l, ys, rfl, R.sub.free hl, upd_same, h2, h3, R.fresh_H0 hl, fun j m => R.fresh_mine hl j m, R.fresh_ex hl⟩ (R.newH hl)⟩
  cases hd with
  | @lst a ys ds h1 h2 h3 => cases e; exact fin (.inl (R.sub.seq h1)) h2 h3 rfl
  | @tup a ys ds h1 h2 h3 => cases e; exact fin (.inr (sameT R.sub h1)) h2 h3 rfl
  | _ => cases e
theorem eo_list {px : Pos} (ha : PE X a (tE X.K ma)) (hg : Gl X "list") (hm : X.mg "list" = none) (hs : starEach [a] X.env = (false, eval a X.env) :: starEach [] X.env) :
    PE X (.Call (.Name "list" px) [a] [] pos) (tO X.K (oL (bnd ma fun x => ofO (opBi .list x)))) := by
  refine pe_imp (pe_callTy cb_listO hg hm PyProof.Rows.boot_list (pa_cons ha pa_nil hs) (by decide) (by decide) hs) fun σ H Q ⟨B, ρ, F, d, ρ', R, h1, k⟩ => ?_
  obtain ⟨y, ρ0, e0, h0⟩ := bnd_inv h1
  obtain ⟨x, ρ1, e1, h2⟩ := bnd_inv e0
  obtain ⟨e2, rfl⟩ := ofO_inv h2
  cases y with
  | list ds =>
    obtain ⟨rfl, rfl⟩ := ret_inv h0
    exact ⟨B, ρ, F, x, ρ1, R, e1, fun vx F1 H1 s1 dx R1 => ⟨B, ρ1, σ, F1, vx, x, ds, rfl, R1, dx, e2, fun v H' hn hr => k v F1 H' s1 hn hr⟩⟩
  | _ => exact (fail_inv h0).elim
end
end Pb
end

section
set_option Elab.async false
set_option linter.all false
set_option maxRecDepth 100000
set_option maxHeartbeats 1000000
namespace Pb
open PySem PySem.Spec L2
/-! ### targets -/
theorem Off.refl (vs : List Nat) (σ : St) : Off vs σ σ := ⟨rfl, fun _ _ => rfl⟩
theorem Off.trans {vs : List Nat} {σ σ1 σ2 : St} (a : Off vs σ σ1) (b : Off vs σ1 σ2) : Off vs σ σ2 := ⟨b.1.trans a.1, fun j h => (b.2 j h).trans (a.2 j h)⟩
theorem Off.mono {vs us : List Nat} {σ σ1 : St} (a : Off vs σ σ1) (h : ∀ j ∈ vs, j ∈ us) : Off us σ σ1 := ⟨a.1, fun j n => a.2 j fun z => n (h j z)⟩
mutual
def Tg.slots : Tg → List Nat
  | .nm i => [i]
  | .tp ts => ts.slots
def Tgs.slots : Tgs → List Nat
  | .nil => []
  | .cons t ts => t.slots ++ ts.slots
end
def Tgs.len : Tgs → Nat
  | .nil => 0
  | .cons _ ts => ts.len + 1
theorem bindTs_len : ∀ {ts : Tgs} {ds : List PyData} {ρ ρ' : Rho}, bindTs ts ds ρ = some ((), ρ') → ds.length = ts.len
  | .nil, [], _, _, _ => rfl
  | .nil, _ :: _, _, _, h => (fail_inv h).elim
  | .cons _ _, [], _, _, h => (fail_inv h).elim
  | .cons t ts, d :: ds, ρ, ρ', h => by
    obtain ⟨_, ρ1, _, h2⟩ := bnd_inv (show bnd (bindT t d) (fun _ => bindTs ts ds) ρ = some ((), ρ') by simpa only [bindTs] using h)
    rw [List.length_cons, bindTs_len h2]
    rfl
section
variable {X : Cx} {pos : Pos}
theorem put_inv {i : Nat} {x : Vl} {ρ ρ' : Rho} (h : put i x ρ = some ((), ρ')) : ρ' = ρ.set i (some x) := by
  unfold put at h
  split at h
  · cases h
  · cases h
  · cases h; rfl
theorem eg_name {e : Expr} {i : Nat} (h : PG X e (gName i)) : PG X e (tG X.K [i] (bindT (.nm i))) := pg_imp h fun v σ H Q ⟨B, ρ, F, d, ρ', R, hd, h1, k⟩ => by
  have e1 := put_inv (show put i (.dat d) ρ = some ((), ρ') by simpa only [bindT] using h1)
  subst e1
  refine k _ F H ⟨List.length_set .., fun j hj => ?_⟩ (Same.refl F) (R.store hd)
  exact List.getElem?_set_ne fun z => hj (by rw [z]; exact List.mem_singleton.mpr rfl)
theorem egs_nil : PGs X [] (tGs X.K [] (bindTs .nil)) := pgs_imp pgs_nil fun vs σ H Q ⟨B, ρ, F, ds, ρ', R, hd, h1, k⟩ => by
  cases hd with
  | nil =>
    obtain ⟨_, rfl⟩ := ret_inv (show ret () ρ = some ((), ρ') by simpa only [bindTs] using h1)
    exact ⟨rfl, k σ F H (Off.refl _ _) (Same.refl F) R⟩
  | cons _ _ => exact (fail_inv (show (fail : M Unit) ρ = some ((), ρ') by simpa only [bindTs] using h1)).elim
theorem egs_cons {e : Expr} {es : List Expr} {t : Tg} {ts : Tgs} (h1 : PG X e (tG X.K t.slots (bindT t))) (h2 : PGs X es (tGs X.K ts.slots (bindTs ts)))
    (hs : (assignEach (e :: es) X.env).map (·.2) = assign e X.env :: (assignEach es X.env).map (·.2)) : PGs X (e :: es) (tGs X.K (t.slots ++ ts.slots) (bindTs (.cons t ts))) := pgs_imp (pgs_cons h1 h2 hs) fun vs σ H Q ⟨B, ρ, F, ds, ρ', R, hd, h1, k⟩ => by
  cases hd with
  | nil => exact (fail_inv (show (fail : M Unit) ρ = some ((), ρ') by simpa only [bindTs] using h1)).elim
  | @cons v vs d ds hd1 hd2 =>
    obtain ⟨_, ρ1, e1, hh⟩ := bnd_inv (show bnd (bindT t d) (fun _ => bindTs ts ds) ρ = some ((), ρ') by simpa only [bindTs] using h1)
    refine ⟨v, vs, rfl, B, ρ, F, d, ρ1, R, hd1, e1, fun σ1 F1 H1 o1 s1 R1 => ⟨B, ρ1, F1, ds, ρ', R1, Dats.mono s1 _ _ hd2, hh, fun σ2 F2 H2 o2 s2 R2 => ?_⟩⟩
    exact k σ2 F2 H2 ((o1.mono fun j hj => List.mem_append_left _ hj).trans (o2.mono fun j hj => List.mem_append_right _ hj)) (s1.trans s2) R2
theorem eg_tup {es : List Expr} {k : Nat} {ts : Tgs} {n : Nat} (hc : X.calm = true) (h : PGs X es (tGs X.K ts.slots (bindTs ts))) (hl : ts.len = n) (hn : (assignEach es X.env).length = n) (hst : (assignEach es X.env).findIdx? (·.1) = none) :
    PG X (.Tuple es k pos) (tG X.K ts.slots (bindT (.tp ts))) := pg_imp (pg_tup hc h hn hst) fun v σ H Q ⟨B, ρ, F, d, ρ', R, hd, h1, k⟩ => by
  cases hd with
  | @tup a xs ds q1 q2 q3 =>
    have hb : bindTs ts ds ρ = some ((), ρ') := by simpa only [bindT] using h1
    exact ⟨a, xs, rfl, sameT R.sub q1, by rw [q3.len, bindTs_len hb, hl], B, ρ, F, ds, ρ', R, q3, hb, k⟩
  | _ => exact (fail_inv (show (fail : M Unit) ρ = some ((), ρ') by simpa only [bindT] using h1)).elim
end

/-! ### what is walked -/
def Walk (K : PySem.W.Frag) (J : It) (F : Hp) (ds : List PyData) : Prop := ∀ {B : Bs} {ρ : Rho} {σ : St} {F1 H1 : Hp} {i : Nat}, Same F F1 → Rp K B ρ σ F1 H1 →
  (ds.length ≤ i → J.stop i H1) ∧ ∀ d, ds[i]? = some d → J.go i H1 ∧ ∀ x H2, J.yld i H1 x H2 → ∃ F2, Same F1 F2 ∧ Dat K F2 x d ∧ Rp K B ρ σ F2 H2
def tI (K : PySem.W.Frag) (m : M (List PyData)) : TI := fun σ H R' => ∃ B ρ F ds ρ', Rp K B ρ σ F H ∧ m ρ = some (ds, ρ') ∧ ∀ J F' H', ds.length ≤ lim → Same F F' → Walk K J F' ds → Rp K B ρ' σ F' H' → R' J H'
section
variable {X : Cx} {tg : Expr} {e a b : Expr} {m ma mb : M PyData} {pos p : Pos}
theorem walk_list {K : PySem.W.Frag} {F : Hp} {a : Addr} {xs : List V} {ds : List PyData} (h : SqL K F a xs) (hd : Dats K F xs ds) : Walk K (Itl K a) F ds := fun {B ρ σ F1 H1 i} sF R => by
  have hs : SqL K H1 a xs := R.sub.seq (sF.seq h)
  refine ⟨fun hi => ⟨xs, hs, by rw [hd.len]; exact hi⟩, fun d hdi => ?_⟩
  obtain ⟨x, hx, dx⟩ := hd.get hdi
  refine ⟨⟨xs, x, hs, hx⟩, fun y H2 hy => ?_⟩
  obtain ⟨rfl, hy⟩ := hy
  have e1 := hy xs hs
  rw [hx] at e1
  cases e1
  exact ⟨F1, Same.refl F1, Dat.mono sF _ _ dx, R⟩
theorem walk_tup {K : PySem.W.Frag} {F : Hp} {a : Addr} {xs : List V} {ds : List PyData} (h : SqT K F a xs) (hd : Dats K F xs ds) : Walk K (Itt K a) F ds := fun {B ρ σ F1 H1 i} sF R => by
  have hs : SqT K H1 a xs := sameT R.sub (sameT sF h)
  refine ⟨fun hi => ⟨xs, hs, by rw [hd.len]; exact hi⟩, fun d hdi => ?_⟩
  obtain ⟨x, hx, dx⟩ := hd.get hdi
  refine ⟨⟨xs, x, hs, hx⟩, fun y H2 hy => ?_⟩
  obtain ⟨rfl, hy⟩ := hy
  have e1 := hy xs hs
  rw [hx] at e1
  cases e1
  exact ⟨F1, Same.refl F1, Dat.mono sF _ _ dx, R⟩
theorem walk_str {K : PySem.W.Frag} {F : Hp} {z : Str} (hz : PyData.strOk z = true) : Walk K (Its z) F (z.cps.toList.map fun c => .str ⟨#[c]⟩) := fun {B ρ σ F1 H1 i} sF R => by
  refine ⟨fun hi => (show z.cps.size ≤ i by simpa using hi), fun d hdi => ?_⟩
  rw [List.getElem?_map] at hdi
  obtain ⟨c, hc, rfl⟩ := Option.map_eq_some_iff.mp hdi
  have hlt : i < z.cps.size := by
    obtain ⟨q, _⟩ := List.getElem?_eq_some_iff.mp hc
    simpa using q
  refine ⟨hlt, fun y H2 hy => ?_⟩
  obtain ⟨rfl, c', hc', rfl⟩ := hy
  have e1 : z.cps.toList[i]? = some c' := by simpa using hc'
  rw [hc] at e1
  cases e1
  refine ⟨F1, Same.refl F1, .str _ ?_, R⟩
  unfold PyData.strOk at hz ⊢
  have hm : c ∈ z.cps := by
    have := List.mem_of_getElem? hc
    simpa using this
  have := Array.all_eq_true'.mp hz c hm
  simpa using this
theorem rngL_len : ∀ (n : Nat) (lo : Int), (rngL lo n).length = n
  | 0, _ => rfl
  | n + 1, lo => by rw [rngL, List.length_cons, rngL_len n]
theorem rngL_get : ∀ (n : Nat) (lo : Int) (i : Nat), i < n → (rngL lo n)[i]? = some (.int (lo + i))
  | 0, _, _, h => absurd h (Nat.not_lt_zero _)
  | n + 1, lo, 0, _ => by rw [rngL, List.getElem?_cons_zero]; simp
  | n + 1, lo, i + 1, h => by
    rw [rngL, List.getElem?_cons_succ, rngL_get n (lo + 1) i (by omega)]
    congr 2
    omega
theorem walk_rng {K : PySem.W.Frag} {F : Hp} {lo : Int} {n : Nat} : Walk K (Itr lo n) F (rngL lo n) := fun {B ρ σ F1 H1 i} sF R => by
  refine ⟨fun hi => by rw [rngL_len] at hi; exact hi, fun d hdi => ?_⟩
  have hlt : i < n := by
    obtain ⟨q, _⟩ := List.getElem?_eq_some_iff.mp hdi
    rw [rngL_len] at q
    exact q
  refine ⟨hlt, fun y H2 hy => ?_⟩
  obtain ⟨rfl, rfl⟩ := hy
  rw [rngL_get n lo i hlt] at hdi
  cases hdi
  exact ⟨F1, Same.refl F1, .int _, R⟩
theorem enmL_len : ∀ (ds : List PyData) (k : Nat), (enmL k ds).length = ds.length
  | [], _ => rfl
  | d :: ds, k => by rw [enmL, List.length_cons, List.length_cons, enmL_len ds]
theorem enmL_get : ∀ (ds : List PyData) (k i : Nat) (y : PyData), (enmL k ds)[i]? = some y → ∃ d, ds[i]? = some d ∧ y = .tuple [.int (k + i : Nat), d]
  | [], _, _, _, h => by cases h
  | d :: ds, k, 0, y, h => by
    rw [enmL, List.getElem?_cons_zero] at h
    cases h
    exact ⟨d, rfl, rfl⟩
  | d :: ds, k, i + 1, y, h => by
    rw [enmL, List.getElem?_cons_succ] at h
    obtain ⟨d', h1, h2⟩ := enmL_get ds (k + 1) i y h
    refine ⟨d', by simpa using h1, ?_⟩
    rw [h2]
    have : k + 1 + i = k + (i + 1) := by omega
    rw [this]
theorem two_lim : 2 ≤ lim := by decide
theorem walk_enm {K : PySem.W.Frag} {F : Hp} {a : Addr} {xs : List V} {ds : List PyData} (h : SqL K F a xs) (hd : Dats K F xs ds) : Walk K (Ite K a) F (enmL 0 ds) := fun {B ρ σ F1 H1 i} sF R => by
  have hs : SqL K H1 a xs := R.sub.seq (sF.seq h)
  refine ⟨fun hi => ⟨xs, hs, by rw [hd.len, ← enmL_len ds 0]; exact hi⟩, fun d hdi => ?_⟩
  obtain ⟨d', hdi', rfl⟩ := enmL_get ds 0 i d hdi
  obtain ⟨x, hx, dx⟩ := hd.get hdi'
  refine ⟨⟨xs, x, hs, hx⟩, fun y H2 hy => ?_⟩
  obtain ⟨T, x', rfl, hT, rfl, hy⟩ := hy
  have e1 := hy xs hs
  rw [hx] at e1
  cases e1
  have hf := R.sub.free hT
  refine ⟨_, upd_none hf, datT (ds := [.int (0 + i : Nat), d']) (by exact two_lim) ?_ hf, R.new hT⟩
  rw [Nat.zero_add]
  exact .cons (.int _) (.cons (Dat.mono sF _ _ dx) .nil)
theorem zipL_get : ∀ (xs ys : List PyData) (i : Nat) (z : PyData), (zipL xs ys)[i]? = some z → ∃ x y, xs[i]? = some x ∧ ys[i]? = some y ∧ z = .tuple [x, y]
  | [], _, _, _, h => by simp [zipL] at h
  | _ :: _, [], _, _, h => by simp [zipL] at h
  | x :: xs, y :: ys, 0, z, h => by
    simp [zipL] at h
    exact ⟨x, y, rfl, rfl, h.symm⟩
  | x :: xs, y :: ys, i + 1, z, h => by
    simp only [zipL, List.getElem?_cons_succ] at h
    exact zipL_get xs ys i z h
theorem zipL_len : ∀ (xs ys : List PyData), (zipL xs ys).length = min xs.length ys.length
  | [], _ => by simp [zipL]
  | _ :: _, [] => by simp [zipL]
  | x :: xs, y :: ys => by simp only [zipL, List.length_cons, zipL_len xs ys]; omega
theorem walk_zipL {K : PySem.W.Frag} {F : Hp} {a b : Addr} {xs ys : List V} {ds es : List PyData} (h : SqL K F a xs) (hd : Dats K F xs ds) (h' : SqL K F b ys) (he : Dats K F ys es) : Walk K (Itz K a b) F (zipL ds es) := fun {B ρ σ F1 H1 i} sF R => by
  have hs : SqL K H1 a xs := R.sub.seq (sF.seq h)
  have hs' : SqL K H1 b ys := R.sub.seq (sF.seq h')
  refine ⟨fun hi => ⟨xs, ys, hs, hs', ?_⟩, fun d hdi => ?_⟩
  · rw [zipL_len] at hi
    rw [hd.len, he.len]
    omega
  · obtain ⟨d1, d2, hd1, hd2, rfl⟩ := zipL_get ds es i d hdi
    obtain ⟨x, hx, dx⟩ := hd.get hd1
    obtain ⟨y, hy, dy⟩ := he.get hd2
    refine ⟨⟨xs, ys, x, y, hs, hs', hx, hy⟩, fun v H2 hv => ?_⟩
    obtain ⟨T, x', y', rfl, hT, rfl, f1, f2⟩ := hv
    have e1 := f1 xs hs
    have e2 := f2 ys hs'
    rw [hx] at e1
    rw [hy] at e2
    cases e1
    cases e2
    have hf := R.sub.free hT
    exact ⟨_, upd_none hf, datT (ds := [d1, d2]) (by exact two_lim) (.cons (Dat.mono sF _ _ dx) (.cons (Dat.mono sF _ _ dy) .nil)) hf, R.new hT⟩
theorem walk_zipT {K : PySem.W.Frag} {F : Hp} {a b : Addr} {xs ys : List V} {ds es : List PyData} (h : SqT K F a xs) (hd : Dats K F xs ds) (h' : SqT K F b ys) (he : Dats K F ys es) : Walk K (RZ.ItzT K a b) F (zipL ds es) := fun {B ρ σ F1 H1 i} sF R => by
  have hs : SqT K H1 a xs := sameT R.sub (sameT sF h)
  have hs' : SqT K H1 b ys := sameT R.sub (sameT sF h')
  refine ⟨fun hi => ⟨xs, ys, hs, hs', ?_⟩, fun d hdi => ?_⟩
  · rw [zipL_len] at hi
    rw [hd.len, he.len]
    omega
  · obtain ⟨d1, d2, hd1, hd2, rfl⟩ := zipL_get ds es i d hdi
    obtain ⟨x, hx, dx⟩ := hd.get hd1
    obtain ⟨y, hy, dy⟩ := he.get hd2
    refine ⟨⟨xs, ys, x, y, hs, hs', hx, hy⟩, fun v H2 hv => ?_⟩
    obtain ⟨T, x', y', rfl, hT, rfl, f1, f2⟩ := hv
    have e1 := f1 xs hs
    have e2 := f2 ys hs'
    rw [hx] at e1
    rw [hy] at e2
    cases e1
    cases e2
    have hf := R.sub.free hT
    exact ⟨_, upd_none hf, datT (ds := [d1, d2]) (by exact two_lim) (.cons (Dat.mono sF _ _ dx) (.cons (Dat.mono sF _ _ dy) .nil)) hf, R.new hT⟩
theorem ei_seq (he : PE X e (tE X.K m)) : PI X tg e (tI X.K (bnd m fun x => ofO (seqOf x))) := ⟨fun pins s σ H R' I ⟨B, ρ, F, ds, ρ', R, h1, k⟩ => by
  obtain ⟨x, ρ1, e1, h2⟩ := bnd_inv h1
  obtain ⟨e2, rfl⟩ := ofO_inv h2
  cases x with
  | list es =>
    cases e2
    refine (pi_list he).run pins s σ H R' I ⟨B, ρ, F, _, ρ1, R, e1, fun v F1 H1 s1 dv R1 => ?_⟩
    cases dv with
    | lst q1 q2 q3 => exact ⟨_, rfl, ⟨_, R1.sub.seq q1⟩, k _ F1 H1 (by rw [← q3.len]; exact q2) s1 (walk_list q1 q3) R1⟩
  | tuple es =>
    cases e2
    refine (pi_tup he).run pins s σ H R' I ⟨B, ρ, F, _, ρ1, R, e1, fun v F1 H1 s1 dv R1 => ?_⟩
    cases dv with
    | tup q1 q2 q3 => exact ⟨_, rfl, ⟨_, sameT R1.sub q1⟩, k _ F1 H1 (by rw [← q3.len]; exact q2) s1 (walk_tup q1 q3) R1⟩
  | str z =>
    have e3 : (if z.length ≤ lim then some (z.cps.toList.map fun c => PyData.str ⟨#[c]⟩) else none) = some ds := e2
    split at e3
    · rename_i hz
      cases e3
      refine (pi_str he).run pins s σ H R' I ⟨B, ρ, F, _, ρ1, R, e1, fun v F1 H1 s1 dv R1 => ?_⟩
      cases dv with
      | str _ q => exact ⟨z, rfl, k _ F1 H1 (by rw [List.length_map]; exact hz) s1 (walk_str q) R1⟩
    · cases e3
  | _ => cases e2⟩
theorem rngOf_some {i j : Int} {ds : List PyData} (h : rngOf i j = some ds) : (-(2 ^ 62) ≤ i ∧ i < 2 ^ 62 ∧ -(2 ^ 62) ≤ j ∧ j < 2 ^ 62 ∧ (j - i).toNat ≤ lim) ∧ ds = rngL i (j - i).toNat := by
  unfold rngOf at h
  split at h
  · rename_i hc
    cases h
    refine ⟨?_, rfl⟩
    rw [show (2 : Nat) ^ 62 = 4611686018427387904 by decide +kernel] at hc
    rw [show (2 : Int) ^ 62 = 4611686018427387904 by decide +kernel]
    omega
  · cases h
theorem ei_rng {px : Pos} (hg : Gl X "range") (hm : X.mg "range" = none) (he : PE X e (tE X.K m)) (hs : starEach [e] X.env = [(false, eval e X.env)]) :
    PI X tg (.Call (.Name "range" px) [e] [] pos) (tI X.K (bnd m fun x => ofO ((asI x).bind fun j => rngOf 0 j))) := ⟨fun pins s σ H R' I ⟨B, ρ, F, ds, ρ', R, h1, k⟩ => by
  obtain ⟨x, ρ1, e1, h2⟩ := bnd_inv h1
  obtain ⟨e2, rfl⟩ := ofO_inv h2
  obtain ⟨j, e4, e5⟩ := Option.bind_eq_some_iff.mp e2
  obtain ⟨⟨_, _, c3, c4, c5⟩, rfl⟩ := rngOf_some e5
  refine (pi_range1 hg hm (pa_cons he pa_nil hs) hs).run pins s σ H R' I ⟨B, ρ, F, x, ρ1, R, e1, fun v F1 H1 s1 dv R1 => ⟨j, ?_, c3, c4, ?_⟩⟩
  · rw [asI_dat dv e4]
  · have : (j - 0).toNat = j.toNat := by rw [Int.sub_zero]
    rw [this] at k c5
    exact k _ F1 H1 (by rw [rngL_len]; exact c5) s1 walk_rng R1⟩
theorem ei_rng2 {px : Pos} (hg : Gl X "range") (hm : X.mg "range" = none) (ha : PE X a (tE X.K ma)) (hb : PE X b (tE X.K mb)) (hs : starEach [a, b] X.env = [(false, eval a X.env), (false, eval b X.env)]) (hs2 : starEach [b] X.env = [(false, eval b X.env)]) :
    PI X tg (.Call (.Name "range" px) [a, b] [] pos) (tI X.K (bnd ma fun x => bnd mb fun y => ofO ((asI x).bind fun i => (asI y).bind fun j => rngOf i j))) := ⟨fun pins s σ H R' I ⟨B, ρ, F, ds, ρ', R, h1, k⟩ => by
  obtain ⟨x, ρ1, e1, h2⟩ := bnd_inv h1
  obtain ⟨y, ρ2, e2, h3⟩ := bnd_inv h2
  obtain ⟨e3, rfl⟩ := ofO_inv h3
  obtain ⟨i, e4, e5⟩ := Option.bind_eq_some_iff.mp e3
  obtain ⟨j, e6, e7⟩ := Option.bind_eq_some_iff.mp e5
  obtain ⟨⟨c1, c2, c3, c4, c5⟩, rfl⟩ := rngOf_some e7
  refine (pi_range2 hg hm (pa_cons ha (pa_cons hb pa_nil hs2) (by rw [hs, hs2])) hs hs2).run pins s σ H R' I ⟨B, ρ, F, x, ρ1, R, e1, fun v F1 H1 s1 dv R1 => ⟨B, ρ1, F1, y, ρ2, R1, e2, fun w F2 H2 s2 dw R2 => ⟨i, j, ?_, ⟨c1, c2, c3, c4⟩, ?_⟩⟩⟩
  · rw [asI_dat dv e4, asI_dat dw e6]
  · exact k _ F2 H2 (by rw [rngL_len]; exact c5) (s1.trans s2) walk_rng R2⟩
theorem ei_enm {px tpos : Pos} {elts : List Expr} {kk : Nat} (hg : Gl X "enumerate") (hm : X.mg "enumerate" = none) (he : PE X e (tE X.K m)) (hs : starEach [e] X.env = [(false, eval e X.env)]) :
    PI X (.Tuple elts kk tpos) (.Call (.Name "enumerate" px) [e] [] pos) (tI X.K (bnd m fun x => ofO (enmOf x))) := ⟨fun pins s σ H R' I ⟨B, ρ, F, ds, ρ', R, h1, k⟩ => by
  obtain ⟨x, ρ1, e1, h2⟩ := bnd_inv h1
  obtain ⟨e2, rfl⟩ := ofO_inv h2
  cases x with
  | list es =>
    cases e2
    refine (pi_enum hg hm (pa_cons he pa_nil hs) hs).run pins s σ H R' I ⟨B, ρ, F, _, ρ1, R, e1, fun v F1 H1 s1 dv R1 => ?_⟩
    cases dv with
    | lst q1 q2 q3 => exact ⟨_, _, rfl, R1.sub.seq q1, k _ F1 H1 (by rw [enmL_len, ← q3.len]; exact q2) s1 (walk_enm q1 q3) R1⟩
  | _ => cases e2⟩
theorem ei_zip {px tpos : Pos} {elts : List Expr} {kk : Nat} (hg : Gl X "zip") (hm : X.mg "zip" = none) (ha : PE X a (tE X.K ma)) (hb : PE X b (tE X.K mb)) (hs : starEach [a, b] X.env = (false, eval a X.env) :: starEach [b] X.env) (hs2 : starEach [b] X.env = [(false, eval b X.env)])
    (hpl : (backTo pos (starEach [b] X.env)).any (·.1) = false) :
    PI X (.Tuple elts kk tpos) (.Call (.Name "zip" px) [a, b] [] pos) (tI X.K (bnd ma fun x => bnd mb fun y => ofO (zipOf x y))) := ⟨fun pins s σ H R' I ⟨B, ρ, F, ds, ρ', R, h1, k⟩ => by
  obtain ⟨x, ρ1, e1, h2⟩ := bnd_inv h1
  obtain ⟨y, ρ2, e2, h3⟩ := bnd_inv h2
  obtain ⟨e3, rfl⟩ := ofO_inv h3
  refine (RZ.pi_zipA hg hm (pa_cons ha (pa_cons hb pa_nil hs2) hs) hs hpl).run pins s σ H R' I ⟨B, ρ, F, x, ρ1, R, e1, fun v F1 H1 s1 dv R1 => ⟨B, ρ1, F1, y, ρ2, R1, e2, fun w F2 H2 s2 dw R2 => ?_⟩⟩
  cases dv with
  | lst q1 q2 q3 =>
    cases dw with
    | lst w1 w2 w3 =>
      cases e3
      refine ⟨_, _, _, _, rfl, .inl ⟨R2.sub.seq (s2.seq q1), R2.sub.seq w1, ?_⟩⟩
      exact k _ F2 H2 (by rw [zipL_len, ← q3.len]; omega) (s1.trans s2) (walk_zipL (s2.seq q1) (Dats.mono s2 _ _ q3) w1 w3) R2
    | _ => cases e3
  | tup q1 q2 q3 =>
    cases dw with
    | tup w1 w2 w3 =>
      cases e3
      refine ⟨_, _, _, _, rfl, .inr ⟨sameT R2.sub (sameT s2 q1), sameT R2.sub w1, ?_⟩⟩
      exact k _ F2 H2 (by rw [zipL_len, ← q3.len]; omega) (s1.trans s2) (walk_zipT (sameT s2 q1) (Dats.mono s2 _ _ q3) w1 w3) R2
    | _ => cases e3
  | _ => cases dw <;> cases e3⟩
end
end Pb
end

section
set_option Elab.async false
set_option linter.all false
set_option maxRecDepth 100000
set_option maxHeartbeats 1000000
namespace Pb
open PySem PySem.Spec L2
section
variable {X : Cx} {tg e a b c : Expr} {st : Stmt} {rest body : List Stmt} {m me mc : M PyData} {mo mb : M Out} {pos p : Pos}
/-! ### blocks -/
theorem es_nil : PSs X [] (tS X.K (ret .nx)) := pss_imp pss_nil fun D σ H ⟨B, ρ, F, o, ρ', R, h1, k⟩ => by
  obtain ⟨rfl, rfl⟩ := ret_inv h1
  exact k σ F H (Same.refl F) R
def seqM (m : M Out) (k : M Out) : M Out := bnd m fun
    | .nx => k
    | .rt x => ret (.rt x)
theorem es_cons (h1 : PS X st (tS X.K mo)) (h2 : PSs X rest (tS X.K mb)) : PSs X (st :: rest) (tS X.K (seqM mo mb)) := pss_imp (pss_cons h1 h2) fun D σ H ⟨B, ρ, F, o, ρ', R, h1, k⟩ => by
  obtain ⟨o1, ρ1, e1, h2⟩ := bnd_inv h1
  refine ⟨B, ρ, F, o1, ρ1, R, e1, ?_⟩
  cases o1 with
  | nx =>
    refine fun σ1 F1 H1 s1 R1 => ⟨B, ρ1, F1, o, ρ', R1, h2, ?_⟩
    cases o with
    | nx => exact fun σ' F' H' s r => k σ' F' H' (s1.trans s) r
    | rt x => exact fun v σ' F' H' s r q => k v σ' F' H' (s1.trans s) r q
  | rt x =>
    obtain ⟨rfl, rfl⟩ := ret_inv h2
    exact k
theorem es_if (hc : PT X c (tT' X.K mc)) (ha : PSs X body (tS X.K mo)) (hb : PSs X rest (tS X.K mb)) : PS X (.If c body rest pos) (tS X.K (bnd mc fun k => bnd (ofO (asB k)) fun k => if k = true then mo else mb)) :=
  ps_imp (ps_if hc ha hb) fun D σ H ⟨B, ρ, F, o, ρ', R, h1, k⟩ => by
  obtain ⟨x, ρ1, e1, h2⟩ := bnd_inv h1
  obtain ⟨q, ρ2, e2, h3⟩ := bnd_inv h2
  obtain ⟨e2z, rfl⟩ := ofO_inv e2
  have := asB_some e2z
  subst this
  refine ⟨B, ρ, F, q, ρ1, R, e1, fun F1 H1 s1 R1 => ?_⟩
  have fin : ∀ mm : M Out, mm ρ1 = some (o, ρ') → tS X.K mm D σ H1 := fun mm hm => by
    refine ⟨B, ρ1, F1, o, ρ', R1, hm, ?_⟩
    cases o with
    | nx => exact fun σ' F' H' s r => k σ' F' H' (s1.trans s) r
    | rt x => exact fun v σ' F' H' s r q => k v σ' F' H' (s1.trans s) r q
  cases q with
  | true => exact iteT (fin _ h3)
  | false => exact iteF (fin _ h3)
theorem es_ret (he : PE X e (tE X.K m)) : PS X (.Return (some e) pos) (tS X.K (bnd m fun d => ret (.rt (.dat d)))) := ps_imp (ps_ret he) fun D σ H ⟨B, ρ, F, o, ρ', R, h1, k⟩ => by
  obtain ⟨x, ρ1, e1, h2⟩ := bnd_inv h1
  obtain ⟨rfl, rfl⟩ := ret_inv h2
  exact ⟨B, ρ, F, x, ρ1, R, e1, fun v F1 H1 s1 dv R1 => k v σ F1 H1 s1 R1 dv⟩
theorem es_retO {m : M Vl} (he : PE X e (tO X.K m)) : PS X (.Return (some e) pos) (tS X.K (bnd m fun x => ret (.rt x))) := ps_imp (ps_ret he) fun D σ H ⟨B, ρ, F, o, ρ', R, h1, k⟩ => by
  obtain ⟨x, ρ1, e1, h2⟩ := bnd_inv h1
  obtain ⟨rfl, rfl⟩ := ret_inv h2
  exact ⟨B, ρ, F, x, ρ1, R, e1, fun v F1 H1 s1 dv R1 => k v σ F1 H1 s1 R1 dv⟩
theorem es_never : PS X st (tS X.K fail) := ⟨fun pins s σ H D I ⟨B, ρ, F, o, ρ', R, h1, k⟩ => (fail_inv h1).elim⟩
theorem es_expr (he : PE X e (tE X.K m)) (hs : swapsWith e none pos.line X.env = pure false) : PS X (.Expr e pos) (tS X.K (bnd m fun _ => ret .nx)) := ps_imp (ps_expr he hs) fun D σ H ⟨B, ρ, F, o, ρ', R, h1, k⟩ => by
  obtain ⟨x, ρ1, e1, h2⟩ := bnd_inv h1
  obtain ⟨rfl, rfl⟩ := ret_inv h2
  exact ⟨B, ρ, F, x, ρ1, R, e1, fun v F1 H1 s1 dv R1 => k σ F1 H1 s1 R1⟩
/-- target = value -/
theorem t_asg {K : PySem.W.Frag} {us : List Nat} {mt : PyData → M Unit} {D : Ends} {σ : St} {H : Hp} (h : tS K (bnd m fun d => bnd (mt d) fun _ => ret .nx) D σ H) : tAsg (tE K m) (tG K us mt) D σ H := by
  obtain ⟨B, ρ, F, o, ρ', R, h1, k⟩ := h
  obtain ⟨x, ρ1, e1, h2⟩ := bnd_inv h1
  obtain ⟨_, ρ2, e2, h3⟩ := bnd_inv h2
  obtain ⟨rfl, rfl⟩ := ret_inv h3
  exact ⟨B, ρ, F, x, ρ1, R, e1, fun v F1 H1 s1 dv R1 => ⟨B, ρ1, F1, x, ρ2, R1, dv, e2, fun σ' F' H' _ s r => k σ' F' H' (s1.trans s) r⟩⟩
theorem t_set {K : PySem.W.Frag} {i : Nat} {D : Ends} {σ : St} {H : Hp} (h : tS K (bnd m fun d => bnd (put i (.dat d)) fun _ => ret .nx) D σ H) : tAsg (tE K m) (gName i) D σ H := by
  obtain ⟨B, ρ, F, o, ρ', R, h1, k⟩ := h
  obtain ⟨x, ρ1, e1, h2⟩ := bnd_inv h1
  obtain ⟨_, ρ2, e2, h3⟩ := bnd_inv h2
  obtain ⟨rfl, rfl⟩ := ret_inv h3
  have e3 := put_inv e2
  subst e3
  exact ⟨B, ρ, F, x, ρ1, R, e1, fun v F1 H1 s1 dv R1 => k _ F1 H1 s1 (R1.store dv)⟩
theorem t_setO {K : PySem.W.Frag} {m : M Vl} {i : Nat} {D : Ends} {σ : St} {H : Hp} (h : tS K (bnd m fun x => bnd (put i x) fun _ => ret .nx) D σ H) : tAsg (tO K m) (gName i) D σ H := by
  obtain ⟨B, ρ, F, o, ρ', R, h1, k⟩ := h
  obtain ⟨x, ρ1, e1, h2⟩ := bnd_inv h1
  obtain ⟨_, ρ2, e2, h3⟩ := bnd_inv h2
  obtain ⟨rfl, rfl⟩ := ret_inv h3
  have e3 := put_inv e2
  subst e3
  refine ⟨B, ρ, F, x, ρ1, R, e1, fun v F1 H1 s1 dv R1 => ?_⟩
  cases x with
  | dat d => exact k _ F1 H1 s1 (R1.store dv)
  | lst ds =>
    obtain ⟨a, xs, rfl, q1, q2, q3, q4, q5, q6, q7⟩ := dv
    exact k _ F1 H1 s1 (R1.storeO q1 q2 q3 q4 q5 q6 q7)
  | lnt _ => exact dv.elim
/-! ### lists that are changed -/
theorem ownL_inv {i : Nat} {ds : List PyData} {ρ ρ' : Rho} (h : ownL i ρ = some (ds, ρ')) : ∃ x, ρ[i]? = some (some x) ∧ x.own = true ∧ (x = .lst ds ∨ x = .lnt ds) ∧ ρ' = ρ := by
  unfold ownL at h
  split at h
  · rename_i q; cases h; exact ⟨_, q, rfl, .inl rfl, rfl⟩
  · rename_i q; cases h; exact ⟨_, q, rfl, .inr rfl, rfl⟩
  · cases h
theorem wr_inv {i : Nat} {x : Vl} {ds es : List PyData} {ρ ρ' : Rho} (hx : ρ[i]? = some (some x)) (hl : x = .lst ds ∨ x = .lnt ds) (h : wr i es ρ = some ((), ρ')) : ρ' = ρ.set i (some (x.wr es)) := by
  unfold wr at h
  rw [hx] at h
  rcases hl with rfl | rfl
  · cases h; rfl
  · cases h; rfl
theorem own_lst {K : PySem.W.Frag} {B : Bs} {ρ : Rho} {σ : St} {F H : Hp} {i : Nat} {x : Vl} {ds : List PyData} (R : Rp K B ρ σ F H) (hx : ρ[i]? = some (some x)) (hl : x = .lst ds ∨ x = .lnt ds) : ∃ v, σ[i]? = some (some v) ∧ LstAt K F H v ds := by
  obtain ⟨v, q1, q2⟩ := R.slot i x hx
  refine ⟨v, q1, ?_⟩
  rcases hl with rfl | rfl
  · exact q2
  · exact q2
theorem es_app {i : Nat} {o : Expr} {apos cpos : Pos} (ho : PE X o (tVar i)) (he : PE X e (tE X.K m)) (hbase : attributeBase o "append" X.env (eval o X.env) = eval o X.env) (hline : (apos.endLine == cpos.line) = true)
    (hs : starEach [e] X.env = (false, eval e X.env) :: starEach [] X.env) :
    PS X (.Expr (.Call (.Attribute o "append" apos) [e] [] cpos) pos) (tS X.K (bnd (ownL i) fun _ => bnd m fun d => bnd (ownL i) fun ds => if ds.length < lim then bnd (wr i (ds ++ [d])) fun _ => ret .nx else fail)) := by
  refine ps_imp (ps_expr (pe_bm PySem.F.plainAttrs_list PySem.F.slot_list_append PySem.F.type_list_append mt_append ho (pa_cons he pa_nil hs) hbase (by rw [hs]; rfl) hline hs rfl) rfl) fun D σ H ⟨B, ρ, F, oo, ρ', R, h1, k⟩ => ?_
  obtain ⟨ds0, ρ0, e0, h2⟩ := bnd_inv h1
  obtain ⟨x0, hx0, _, hl0, rfl⟩ := ownL_inv e0
  obtain ⟨v0, hv, a0, xs0, rfl, _, hH0, _⟩ := own_lst R hx0 hl0
  obtain ⟨d, ρ1, e1, h3⟩ := bnd_inv h2
  obtain ⟨ds, ρ2, e2, h4⟩ := bnd_inv h3
  obtain ⟨x, hx, hxo, hl, rfl⟩ := ownL_inv e2
  split at h4
  · rename_i hlt
    obtain ⟨_, ρ3, e3, h5⟩ := bnd_inv h4
    obtain ⟨rfl, rfl⟩ := ret_inv h5
    have e4 := wr_inv hx hl e3
    subst e4
    refine ⟨.ref a0, hv, Or.inl ⟨rfl, xs0, .inl (.inl hH0)⟩, B, ρ0, F, d, ρ2, R, e1, fun vd F1 H1 s1 dd R1 => ?_⟩
    obtain ⟨v1, w1, a, xs, rfl, l1, l2, l3, l4⟩ := own_lst R1 hx hl
    rw [hv] at w1
    cases w1
    have hxs : xs.length < lim := by rw [l4.len]; exact hlt
    refine ⟨a0, xs, vd, rfl, rfl, l2, lim_lt hxs, ?_⟩
    exact k σ F1 _ s1 (R1.write hx hxo hv (by rw [List.length_append]; exact hxs) (l4.app (.cons dd .nil)))
  · exact (fail_inv h4).elim
theorem es_setIx {i : Nat} {o k : Expr} {mk : M PyData} {spos : Pos} (ho : PE X o (tVar i)) (hk : PE X k (tE X.K mk)) (he : PE X e (tE X.K m))
    (ha : ∀ v, assign (.Subscript o k spos) X.env v = (do
      let ov ← holding [v] (eval o X.env)
      let iv ← holding [v, ov] (eval k X.env)
      standAt spos
      holding [v, ov, iv] (setItem ov iv v)
      release [v, ov, iv] [])) (hs : swapsWithSole [.Subscript o k spos] e pos.line X.env = pure false) (hw : swappedStores [.Subscript o k spos] e X.env = pure none) (h1 : (assignEach [.Subscript o k spos] X.env).map (·.2) = [assign (.Subscript o k spos) X.env]) :
    PS X (.Assign [.Subscript o k spos] e pos) (tS X.K (bnd m fun d => bnd (ownL i) fun _ => bnd mk fun y => bnd (ownL i) fun ds => bnd (ofO ((asI y).bind fun j => ixN ds.length j)) fun n => bnd (wr i (ds.set n d)) fun _ => ret .nx)) := by
  refine ps_imp (ps_asg he (pg_sub ho hk set_list ha) hs hw h1) fun D σ H ⟨B, ρ, F, oo, ρ', R, h1, kk⟩ => ?_
  obtain ⟨d, ρ1, e1, h2⟩ := bnd_inv h1
  obtain ⟨ds0, ρ0, e0, h3⟩ := bnd_inv h2
  obtain ⟨x0, hx0, _, hl0, rfl⟩ := ownL_inv e0
  obtain ⟨y, ρ2, e2, h4⟩ := bnd_inv h3
  obtain ⟨ds, ρ3, e3, h5⟩ := bnd_inv h4
  obtain ⟨x, hx, hxo, hl, rfl⟩ := ownL_inv e3
  obtain ⟨n, ρ4, e4, h6⟩ := bnd_inv h5
  obtain ⟨e4z, rfl⟩ := ofO_inv e4
  obtain ⟨j, e5, e6⟩ := Option.bind_eq_some_iff.mp e4z
  obtain ⟨_, ρ5, e7, h7⟩ := bnd_inv h6
  obtain ⟨rfl, rfl⟩ := ret_inv h7
  have e8 := wr_inv hx hl e7
  subst e8
  refine ⟨B, ρ, F, d, ρ0, R, e1, fun vd F1 H1 s1 dd R1 => ?_⟩
  obtain ⟨v0, hv, _⟩ := own_lst R1 hx0 hl0
  refine ⟨v0, hv, B, ρ0, F1, y, ρ3, R1, e2, fun vy F2 H2 s2 dy R2 => ?_⟩
  obtain ⟨v1, w1, a, xs, rfl, l1, l2, l3, l4⟩ := own_lst R2 hx hl
  rw [hv] at w1
  cases w1
  refine ⟨a, xs, j, n, rfl, asI_dat dy e5, l2, by rw [l4.len]; exact e6, ?_⟩
  exact kk σ F2 _ (s1.trans s2) (R2.write hx hxo hv (by rw [List.length_set]; exact l3) (l4.set n (Dat.mono s2 _ _ dd)))
/-! ### loops -/
theorem out_imp {K : PySem.W.Frag} {B : Bs} {ρ' : Rho} {D : Ends} {F F1 : Hp} {o : Out} (s1 : Same F F1) (k : match o with
  | .nx => ∀ σ' F' H', Same F F' → Rp K B ρ' σ' F' H' → D.nx σ' H'
  | .rt x => ∀ v σ' F' H', Same F F' → Rp K B ρ' σ' F' H' → ResV K B ρ' σ' F' H' v x → D.rt v H') : match o with
  | .nx => ∀ σ' F' H', Same F1 F' → Rp K B ρ' σ' F' H' → D.nx σ' H'
  | .rt x => ∀ v σ' F' H', Same F1 F' → Rp K B ρ' σ' F' H' → ResV K B ρ' σ' F' H' v x → D.rt v H' := by
  cases o with
  | nx => exact fun σ' F' H' s r => k σ' F' H' (s1.trans s) r
  | rt x => exact fun v σ' F' H' s r q => k v σ' F' H' (s1.trans s) r q
theorem t_for {K : PySem.W.Frag} {us : List Nat} {mi : M (List PyData)} {mt : PyData → M Unit} {D : Ends} {σ : St} {H : Hp} (h : tS K (bnd mi fun ds => forL (fun d => bnd (mt d) fun _ => mb) ds) D σ H) : tFor (tI K mi) (tG K us mt) (tS K mb) D σ H := by
  obtain ⟨B, ρ, F, o, ρ', R, h1, k⟩ := h
  obtain ⟨ds, ρ1, e1, h2⟩ := bnd_inv h1
  refine ⟨B, ρ, F, ds, ρ1, R, e1, fun J F1 H1 _ s1 walk R1 => ?_⟩
  refine ⟨fun i n σ' H' => ∃ ρ2 F2, n = ds.length - i ∧ i ≤ ds.length ∧ Rp K B ρ2 σ' F2 H' ∧ Same F1 F2 ∧ forL (fun d => bnd (mt d) fun _ => mb) (ds.drop i) ρ2 = some (o, ρ'),
    ⟨ds.length, ρ1, F1, rfl, Nat.zero_le _, R1, Same.refl F1, h2⟩, fun i n σ2 H2 ⟨ρ2, F2, en, hi, R2, s2, hf⟩ => ?_⟩
  obtain ⟨wstop, wgo⟩ := walk (i := i) s2 R2
  by_cases hlt : i < ds.length
  · have hd : ds[i]? = some ds[i] := List.getElem?_eq_getElem hlt
    obtain ⟨go, yl⟩ := wgo _ hd
    rw [List.drop_eq_getElem_cons hlt] at hf
    obtain ⟨o1, ρ4, e2, hf2⟩ := bnd_inv (show bnd (bnd (mt ds[i]) fun _ => mb) _ ρ2 = some (o, ρ') from hf)
    obtain ⟨_, ρ3, e3, e4⟩ := bnd_inv e2
    refine .inr ⟨go, fun σ' H' => ∃ ρ2 F2, Rp K B ρ2 σ' F2 H' ∧ Same F1 F2 ∧ forL (fun d => bnd (mt d) fun _ => mb) (ds.drop (i + 1)) ρ2 = some (o, ρ'), fun σ' H' ⟨ρ5, F5, R5, s5, hf5⟩ => ⟨ds.length - (i + 1), by omega, ρ5, F5, rfl, hlt, R5, s5, hf5⟩, fun x H3 hy => ?_⟩
    obtain ⟨F3, s3, dx, R3⟩ := yl x H3 hy
    refine ⟨B, ρ2, F3, ds[i], ρ3, R3, dx, e3, fun σ3 F4 H4 _ s4 R4 => ⟨B, ρ3, F4, o1, ρ4, R4, e4, ?_⟩⟩
    cases o1 with
    | nx => exact fun σ' F' H' s r => ⟨ρ4, F', r, ((s2.trans s3).trans s4).trans s, hf2⟩
    | rt x =>
      obtain ⟨rfl, rfl⟩ := ret_inv hf2
      exact fun v σ' F' H' s r q => k v σ' F' H' ((((s1.trans s2).trans s3).trans s4).trans s) r q
  · have hnil : ds.drop i = [] := List.drop_eq_nil_of_le (by omega)
    rw [hnil] at hf
    obtain ⟨rfl, rfl⟩ := ret_inv (show ret Out.nx ρ2 = some (o, ρ') from hf)
    exact .inl ⟨wstop (by omega), k σ2 F2 H2 (s1.trans s2) R2⟩
theorem es_for {iter : Expr} {us : List Nat} {mi : M (List PyData)} {mt : PyData → M Unit} (hp : PassesOwn (model X.prog X.w) X.A X.env X.xe) (hc : X.calm = true) (hi : PI X tg iter (tI X.K mi)) (hg : PG X tg (tG X.K us mt)) (hb : PSs X body (tS X.K mb))
    (hs : ∀ x, foldedSetIterable iter X.env x = pure x) : PS X (.For tg iter body [] pos) (tS X.K (bnd mi fun ds => forL (fun d => bnd (mt d) fun _ => mb) ds)) := ps_imp (ps_for hp hc hi hg hb hs) fun _ _ _ => t_for
theorem t_while {K : PySem.W.Frag} {n : Nat} {D : Ends} {σ : St} {H : Hp} (h : tS K (whlL (bnd mc fun k => ofO (asB k)) mb n) D σ H) : tWhile (tT' K mc) (tS K mb) D σ H := by
  obtain ⟨B, ρ, F, o, ρ', R, h1, k⟩ := h
  refine ⟨fun n' σ' H' => ∃ ρ2 F2, Rp K B ρ2 σ' F2 H' ∧ Same F F2 ∧ whlL (bnd mc fun k => ofO (asB k)) mb n' ρ2 = some (o, ρ'), ⟨n, ρ, F, R, Same.refl F, h1⟩, fun n' σ' H' ⟨ρ2, F2, R2, s2, hw⟩ => ?_⟩
  cases n' with
  | zero => exact (fail_inv hw).elim
  | succ n' =>
    obtain ⟨q, ρ3, e1, h2⟩ := bnd_inv (show bnd (bnd mc fun k => ofO (asB k)) _ ρ2 = some (o, ρ') from hw)
    obtain ⟨x, ρ4, e2, e3⟩ := bnd_inv e1
    obtain ⟨e3z, rfl⟩ := ofO_inv e3
    have := asB_some e3z
    subst this
    refine ⟨B, ρ2, F2, q, ρ4, R2, e2, fun F3 H3 s3 R3 => ?_⟩
    cases q with
    | true =>
      refine iteT ⟨fun σ' H' => ∃ ρ2 F2, Rp K B ρ2 σ' F2 H' ∧ Same F F2 ∧ whlL (bnd mc fun k => ofO (asB k)) mb n' ρ2 = some (o, ρ'), fun σ' H' ⟨ρ5, F5, q5⟩ => ⟨n', Nat.lt_succ_self _, ρ5, F5, q5⟩, ?_⟩
      rw [if_pos rfl] at h2
      obtain ⟨o1, ρ5, e5, h5⟩ := bnd_inv h2
      refine ⟨B, ρ4, F3, o1, ρ5, R3, e5, ?_⟩
      cases o1 with
      | nx => exact fun σ' F' H' s r => ⟨ρ5, F', r, (s2.trans s3).trans s, h5⟩
      | rt x =>
        obtain ⟨rfl, rfl⟩ := ret_inv h5
        exact fun v σ' F' H' s r q => k v σ' F' H' ((s2.trans s3).trans s) r q
    | false =>
      rw [if_neg (by decide)] at h2
      obtain ⟨rfl, rfl⟩ := ret_inv h2
      exact iteF (k σ' F3 H3 (s2.trans s3) R3)
theorem es_while {n : Nat} (hp : PassesOwn (model X.prog X.w) X.A X.env X.xe) (hc : PT X c (tT' X.K mc)) (hb : PSs X body (tS X.K mb)) : PS X (.While c body [] pos) (tS X.K (whlL (bnd mc fun k => ofO (asB k)) mb n)) := ps_imp (ps_while hp hc hb) fun _ _ _ => t_while
end
end Pb
end

section
set_option Elab.async false
set_option linter.all false
set_option maxRecDepth 100000
set_option maxHeartbeats 1000000
namespace Pb
open PySem PySem.Spec L2
/-! ### comprehensions -/
theorem wipe_in {σ : St} {i : Nat} : ∀ {vs : List Nat}, i ∈ vs → i < σ.length → (wipe σ vs)[i]? = some none
  | v :: vs, h, hl => by
    unfold wipe
    by_cases e : v = i
    · subst e
      rw [List.getElem?_set_self (by rw [wipe_length]; exact hl)]
    · rw [List.getElem?_set_ne e]
      exact wipe_in ((List.mem_cons.mp h).resolve_left fun z => e z.symm) hl
theorem wipe_off {vs : List Nat} {σ σ2 : St} (h : Off vs (wipe σ vs) σ2) : wipe σ2 vs = wipe σ vs := by
  have hl : σ2.length = σ.length := by rw [h.1, wipe_length]
  apply List.ext_getElem?
  intro i
  by_cases hi : i ∈ vs
  · by_cases hlt : i < σ.length
    · rw [wipe_in hi hlt, wipe_in hi (by rw [hl]; exact hlt)]
    · rw [List.getElem?_eq_none (by rw [wipe_length]; omega), List.getElem?_eq_none (by rw [wipe_length]; omega)]
  · rw [wipe_out hi, h.2 i hi, wipe_out hi]
theorem wipeR_length (ρ : Rho) : ∀ vs : List Nat, (wipeR ρ vs).length = ρ.length
  | [] => rfl
  | v :: vs => by unfold wipeR; rw [List.length_set, wipeR_length ρ vs]
theorem wipeR_some {ρ : Rho} {i : Nat} {x : Vl} : ∀ {vs : List Nat}, (wipeR ρ vs)[i]? = some (some x) → i ∉ vs ∧ ρ[i]? = some (some x)
  | [], h => ⟨List.not_mem_nil, h⟩
  | v :: vs, h => by
    unfold wipeR at h
    rcases set_some h with ⟨_, q, _⟩ | ⟨ne, q⟩
    · cases q
    · obtain ⟨h1, h2⟩ := wipeR_some q
      exact ⟨fun z => (List.mem_cons.mp z).elim (fun z => ne z.symm) h1, h2⟩
section
variable {K : PySem.W.Frag} {B : Bs} {ρ : Rho} {σ : St} {F F' H H' : Hp}
theorem Rp.wipe (R : Rp K B ρ σ F H) (vs : List Nat) : Rp K B (wipeR ρ vs) (wipe σ vs) F H := by
  have mine : ∀ {j a}, Mine (wipeR ρ vs) (L2.wipe σ vs) j a → Mine ρ σ j a := fun {j a} m => by
    obtain ⟨⟨x, h1, h2⟩, h3⟩ := m
    obtain ⟨q1, q2⟩ := wipeR_some h1
    rw [wipe_out q1] at h3
    exact ⟨⟨x, q2, h2⟩, h3⟩
  refine ⟨by rw [wipeR_length, wipe_length]; exact R.len, R.sub, R.ext, R.dom, R.keep, R.live, fun i x e => ?_, fun i ds a e e2 => ?_, fun i ds a e e2 => ?_, fun i j a m m2 => R.inj i j a (mine m) (mine m2), fun p hp => ?_⟩
  · obtain ⟨q1, q2⟩ := wipeR_some e
    obtain ⟨v, q3, q4⟩ := R.slot i x q2
    exact ⟨v, by rw [wipe_out q1]; exact q3, q4⟩
  · obtain ⟨q1, q2⟩ := wipeR_some e
    rw [wipe_out q1] at e2
    exact R.mine i ds a q2 e2
  · obtain ⟨q1, q2⟩ := wipeR_some e
    rw [wipe_out q1] at e2
    exact R.lent i ds a q2 e2
  · obtain ⟨h1, h2, h3, h4⟩ := R.prot p hp
    exact ⟨h1, h2, h3, fun j m => h4 j (mine m)⟩
theorem backR_length (ρ ρ' : Rho) : ∀ vs : List Nat, (backR ρ ρ' vs).length = ρ'.length
  | [] => rfl
  | v :: vs => by unfold backR; rw [List.length_set, backR_length ρ ρ' vs]
theorem backR_some {ρ ρ' : Rho} {i : Nat} {x : Vl} : ∀ {vs : List Nat}, (backR ρ ρ' vs)[i]? = some (some x) → (i ∈ vs ∧ ρ[i]? = some (some x)) ∨ (i ∉ vs ∧ ρ'[i]? = some (some x))
  | [], h => .inr ⟨List.not_mem_nil, h⟩
  | v :: vs, h => by
    unfold backR at h
    rcases set_some h with ⟨rfl, q, _⟩ | ⟨ne, q⟩
    · refine .inl ⟨List.mem_cons_self .., ?_⟩
      cases e : ρ[v]? with
      | none => rw [e] at q; cases q
      | some y => rw [e] at q; cases y <;> cases q; rfl
    · rcases backR_some q with ⟨h1, h2⟩ | ⟨h1, h2⟩
      · exact .inl ⟨List.mem_cons_of_mem _ h1, h2⟩
      · exact .inr ⟨fun z => (List.mem_cons.mp z).elim (fun z => ne z.symm) h1, h2⟩
theorem noOwn_dat {own : List Nat} (h : noOwn ρ own = true) {i : Nat} {x : Vl} (hi : i ∈ own) (e : ρ[i]? = some (some x)) : ∃ d, x = .dat d := by
  unfold noOwn at h
  have := List.all_eq_true.mp h i hi
  rw [e] at this
  cases x with
  | dat d => exact ⟨d, rfl⟩
  | lst _ => cases this
  | lnt _ => cases this
theorem Rp.back {ρ2 : Rho} {own : List Nat} (R : Rp K B ρ σ F H) (hn : noOwn ρ own = true) (R2 : Rp K B ρ2 (L2.wipe σ own) F' H') (sF : Same F F') : Rp K B (backR ρ ρ2 own) σ F' H' := by
  have own' : ∀ {j : Nat} {x : Vl}, (backR ρ ρ2 own)[j]? = some (some x) → x.own = true → j ∉ own ∧ ρ2[j]? = some (some x) := fun {j x} e ho => by
    rcases backR_some e with ⟨h1, h2⟩ | h
    · obtain ⟨d, rfl⟩ := noOwn_dat hn h1 h2
      cases ho
    · exact h
  have mine : ∀ {j a}, Mine (backR ρ ρ2 own) σ j a → Mine ρ2 (L2.wipe σ own) j a := fun {j a} m => by
    obtain ⟨⟨x, h1, h2⟩, h3⟩ := m
    obtain ⟨q1, q2⟩ := own' h1 h2
    exact ⟨⟨x, q2, h2⟩, by rw [wipe_out q1]; exact h3⟩
  refine ⟨by rw [backR_length, R2.len, wipe_length], R2.sub, R2.ext, R2.dom, R2.keep, R2.live, fun i x e => ?_, fun i ds a e e2 => ?_, fun i ds a e e2 => ?_, fun i j a m m2 => R2.inj i j a (mine m) (mine m2), fun p hp => ?_⟩
  · rcases backR_some e with ⟨h1, h2⟩ | ⟨h1, h2⟩
    · obtain ⟨d, rfl⟩ := noOwn_dat hn h1 h2
      obtain ⟨v, q1, q2⟩ := R.slot i _ h2
      exact ⟨v, q1, Dat.mono sF d v q2⟩
    · obtain ⟨v, q1, q2⟩ := R2.slot i x h2
      rw [wipe_out h1] at q1
      exact ⟨v, q1, q2⟩
  · obtain ⟨q1, q2⟩ := own' e rfl
    exact R2.mine i ds a q2 (by rw [wipe_out q1]; exact e2)
  · obtain ⟨q1, q2⟩ := own' e rfl
    exact R2.lent i ds a q2 (by rw [wipe_out q1]; exact e2)
  · obtain ⟨h1, h2, h3, h4⟩ := R2.prot p hp
    exact ⟨h1, h2, h3, fun j m => h4 j (mine m)⟩
end
theorem lcL_len {b : PyData → M (Option PyData)} {own : List Nat} : ∀ {ds r : List PyData} {ρ ρ' : Rho}, lcL b own ds ρ = some (r, ρ') → r.length ≤ ds.length
  | [], r, ρ, ρ', h => by
    obtain ⟨rfl, _⟩ := ret_inv (show ret [] ρ = some (r, ρ') from h)
    exact Nat.le_refl _
  | d :: ds, r, ρ, ρ', h => by
    unfold lcL at h
    split at h
    · cases h
    · split at h
      · cases h
      · rename_i r' ρ2 e
        have := lcL_len e
        cases h
        split <;> simp <;> omega
theorem lcL_cons {b : PyData → M (Option PyData)} {own : List Nat} {d : PyData} {ds r : List PyData} {ρ ρ' : Rho} (h : lcL b own (d :: ds) ρ = some (r, ρ')) :
    ∃ o ρ1 r', b d ρ = some (o, ρ1) ∧ lcL b own ds (wipeR ρ1 own) = some (r', ρ') ∧ r = o.toList ++ r' := by
  unfold lcL at h
  split at h
  · cases h
  · rename_i o ρ1 e1
    split at h
    · cases h
    · rename_i r' ρ2 e2
      cases h
      refine ⟨o, ρ1, r', e1, e2, ?_⟩
      cases o <;> rfl
section
variable {X : Cx}
/-- the core: D is the new list -/
theorem t_lc {K : PySem.W.Frag} {us own : List Nat} {mi : M (List PyData)} {mt : PyData → M Unit} {mc me : M PyData} {σ : St} {H : Hp} {Q : VK} (hus : ∀ j ∈ us, j ∈ own)
    {B : Bs} {ρ ρ' : Rho} {F : Hp} {d : PyData} (R : Rp K B ρ σ F H) (h1 : bnd mi (fun ds => lcM (lcB mt mc me) own ds) ρ = some (d, ρ'))
    (k : ∀ v r F' H', d = .list r → Same F F' → NewL K B ρ' σ F' H' v r → Rp K B ρ' σ F' H' → Q v H') : tLc (tI K mi) (tG K us mt) (tT' K mc) (tE K me) own σ H Q := by
  obtain ⟨ds, ρ1, e1, h2⟩ := bnd_inv h1
  unfold lcM at h2
  split at h2
  · rename_i hn
    split at h2
    · cases h2
    · rename_i r ρ2 e2
      cases h2
      refine ⟨B, ρ, F, ds, ρ1, R, e1, fun J F1 H1 hle s1 walk R1 D hD => ?_⟩
      have nx := R1.fresh_ex hD
      have h0 := R1.fresh_H0 hD
      have hr := lcL_len e2
      -- the invariant
      refine ⟨fun i n H' => ∃ ρb Fb xs acc rest, n = ds.length - i ∧ i ≤ ds.length ∧ Rp K B ρb (wipe σ own) Fb H' ∧ Same F1 Fb ∧ H' D = some (.lst xs) ∧ Dats K Fb xs acc ∧ Fb D = none ∧ (∀ j, ¬ Mine ρb (wipe σ own) j D) ∧
          lcL (lcB mt mc me) own (ds.drop i) ρb = some (rest, ρ2) ∧ acc ++ rest = r ∧ acc.length ≤ i,
        ⟨ds.length, wipeR ρ1 own, F1, [], [], r, rfl, Nat.zero_le _, (R1.newH hD).wipe own, Same.refl F1, upd_same, .nil, R1.sub.free hD, fun j m => (R1.newH (o := .lst []) hD |>.wipe own |>.own_at m).2.elim fun u hu => ?_, e2, rfl, Nat.le_refl _⟩, fun i n H2 hW => ?_⟩
      · have R0 := R1.wipe own
        exact R0.fresh_mine hD j m
      · obtain ⟨ρb, Fb, xs, acc, rest, en, hi, Rb, sb, hDx, hdx, hFD, hnm, hl, hacc, hal⟩ := hW
        obtain ⟨wstop, wgo⟩ := walk (i := i) sb Rb
        by_cases hlt : i < ds.length
        · have hd : ds[i]? = some ds[i] := List.getElem?_eq_getElem hlt
          rw [List.drop_eq_getElem_cons hlt] at hl
          obtain ⟨o, ρ3, r', f1, f2, f3⟩ := lcL_cons hl
          obtain ⟨_, ρ4, g1, g2⟩ := bnd_inv f1
          obtain ⟨kd, ρ5, g3, g4⟩ := bnd_inv g2
          obtain ⟨kb, ρ6, g5, g6⟩ := bnd_inv g4
          obtain ⟨g5z, rfl⟩ := ofO_inv g5
          have := asB_some g5z
          subst this
          have Ra : Rp K (B.aside D (.lst xs)) ρb (wipe σ own) Fb H2 := Rb.aside hDx hFD h0 hnm
          obtain ⟨_, wgo'⟩ := walk (i := i) sb Ra
          obtain ⟨go, yl⟩ := wgo' _ hd
          refine .inr ⟨go, fun H' => ∃ ρb Fb xs acc rest, Rp K B ρb (wipe σ own) Fb H' ∧ Same F1 Fb ∧ H' D = some (.lst xs) ∧ Dats K Fb xs acc ∧ Fb D = none ∧ (∀ j, ¬ Mine ρb (wipe σ own) j D) ∧
              lcL (lcB mt mc me) own (ds.drop (i + 1)) ρb = some (rest, ρ2) ∧ acc ++ rest = r ∧ acc.length ≤ i + 1,
            fun H' ⟨ρc, Fc, ys, acc', rest', c1, c2, c3, c4, c5, c6, c7, c8, c9⟩ => ⟨ds.length - (i + 1), by omega, ρc, Fc, ys, acc', rest', rfl, hlt, c1, c2, c3, c4, c5, c6, c7, c8, c9⟩, fun x H3 hy => ?_⟩
          obtain ⟨F3, s3, dx, R3⟩ := yl x H3 hy
          refine ⟨B.aside D (.lst xs), ρb, F3, ds[i], ρ4, R3, dx, g1, fun σ4 F4 H4 o4 s4 R4 => ⟨?_, ?_⟩⟩
          · exact wipe_off (o4.mono hus)
          · have hw : wipe σ4 own = wipe σ own := wipe_off (o4.mono hus)
            refine ⟨B.aside D (.lst xs), ρ4, F4, kb, ρ5, R4, g3, fun F5 H5 s5 R5 => ?_⟩
            cases kb with
            | true =>
              refine iteT ?_
              rw [if_pos rfl] at g6
              obtain ⟨y, ρ7, g7, g8⟩ := bnd_inv g6
              obtain ⟨rfl, rfl⟩ := ret_inv g8
              refine ⟨B.aside D (.lst xs), ρ5, F5, y, ρ7, R5, g7, fun vy F6 H6 s6 dy R6 => ?_⟩
              obtain ⟨R7, a1, a2, a3, a4⟩ := R6.unaside
              have sAll : Same Fb F6 := ((s3.trans s4).trans s5).trans s6
              have hxl : xs.length < lim := by
                rw [hdx.len]
                omega
              refine ⟨xs, a1, lim_lt hxl, ?_⟩
              have R8 := (R7.wrEx (o := .lst (xs ++ [vy])) a1 a2 a3 a4 nx).wipe own
              rw [hw] at R8
              refine ⟨wipeR ρ7 own, F6, xs ++ [vy], acc ++ [y], r', R8, sb.trans sAll, upd_same, (Dats.mono sAll _ _ hdx).app (.cons dy .nil), a2, fun j m => ?_, f2, ?_, ?_⟩
              · obtain ⟨⟨z, m1, m2⟩, m3⟩ := m
                obtain ⟨w1, w2⟩ := wipeR_some m1
                refine a4 j ⟨⟨z, w2, m2⟩, ?_⟩
                have : (wipe σ4 own)[j]? = some (some (.ref D)) := by rw [hw]; exact m3
                rw [wipe_out w1] at this
                exact this
              · rw [← hacc, f3, List.append_assoc]
                rfl
              · rw [List.length_append]
                simpa using hal
            | false =>
              refine iteF ?_
              rw [if_neg (by decide)] at g6
              obtain ⟨rfl, rfl⟩ := ret_inv g6
              obtain ⟨R7, a1, a2, a3, a4⟩ := R5.unaside
              have sAll : Same Fb F5 := (s3.trans s4).trans s5
              have R8 := R7.wipe own
              rw [hw] at R8
              refine ⟨wipeR ρ5 own, F5, xs, acc, r', R8, sb.trans sAll, a1, Dats.mono sAll _ _ hdx, a2, fun j m => ?_, f2, ?_, by omega⟩
              · obtain ⟨⟨z, m1, m2⟩, m3⟩ := m
                obtain ⟨w1, w2⟩ := wipeR_some m1
                refine a4 j ⟨⟨z, w2, m2⟩, ?_⟩
                have : (wipe σ4 own)[j]? = some (some (.ref D)) := by rw [hw]; exact m3
                rw [wipe_out w1] at this
                exact this
              · rw [← hacc, f3]
                rfl
        · have hnil : ds.drop i = [] := List.drop_eq_nil_of_le (by omega)
          rw [hnil] at hl
          obtain ⟨q1, q2⟩ := ret_inv (show ret [] ρb = some (rest, ρ2) from hl)
          subst q1 q2
          rw [List.append_nil] at hacc
          subst hacc
          have Rfin := R1.back hn Rb sb
          refine .inl ⟨wstop (by omega), k _ acc Fb H2 rfl (s1.trans sb) ⟨D, xs, rfl, hFD, hDx, ?_, hdx, h0, fun j m => ?_, nx⟩ Rfin⟩
          · rw [hdx.len]
            omega
          · obtain ⟨⟨z, m1, m2⟩, m3⟩ := m
            rcases backR_some m1 with ⟨w1, w2⟩ | ⟨w1, w2⟩
            · obtain ⟨dd, rfl⟩ := noOwn_dat hn w1 w2
              cases m2
            · exact hnm j ⟨⟨z, w2, m2⟩, by rw [wipe_out w1]; exact m3⟩
  · cases h2
theorem t_lcE {K : PySem.W.Frag} {us own : List Nat} {mi : M (List PyData)} {mt : PyData → M Unit} {mc me : M PyData} {σ : St} {H : Hp} {Q : VK} (hus : ∀ j ∈ us, j ∈ own) (h : tE K (bnd mi (fun ds => lcM (lcB mt mc me) own ds)) σ H Q) :
    tLc (tI K mi) (tG K us mt) (tT' K mc) (tE K me) own σ H Q := by
  obtain ⟨B, ρ, F, d, ρ', R, h1, k⟩ := h
  refine t_lc hus R h1 fun v r F' H' ed s hn R' => ?_
  subst ed
  obtain ⟨a, xs, rfl, q1, q2, q3, q4, q5, q6, q7⟩ := hn
  exact k _ _ H' (s.trans (upd_none q1)) (datL q3 q4 q1) (R'.freezeNew q2 q1 q5 q6 q7)
theorem t_lcO {K : PySem.W.Frag} {us own : List Nat} {mi : M (List PyData)} {mt : PyData → M Unit} {mc me : M PyData} {σ : St} {H : Hp} {Q : VK} (hus : ∀ j ∈ us, j ∈ own) (h : tO K (oL (bnd mi (fun ds => lcM (lcB mt mc me) own ds))) σ H Q) :
    tLc (tI K mi) (tG K us mt) (tT' K mc) (tE K me) own σ H Q := by
  obtain ⟨B, ρ, F, d, ρ', R, h1, k⟩ := h
  obtain ⟨y, ρ1, e1, h2⟩ := bnd_inv h1
  refine t_lc hus R e1 fun v r F' H' ed s hn R' => ?_
  subst ed
  obtain ⟨rfl, rfl⟩ := ret_inv h2
  exact k _ _ H' s hn R'
variable {elt tg iter : Expr} {ifs : List Expr} {scope : Scope} {ownN : List (Str × Nat)} {pos spos : Pos} {us own : List Nat} {mi : M (List PyData)} {mt : PyData → M Unit} {mc me : M PyData}
theorem ets_nil : PTs X [] (tT' X.K (ret (.bool true))) := ⟨fun pins s σ H Q I ⟨B, ρ, F, b, ρ', R, h1, k⟩ => by
  obtain ⟨e1, rfl⟩ := ret_inv h1
  cases e1
  exact pts_nil.run pins s σ H Q I (k F H (Same.refl F) R)⟩
theorem ets_one {c : Expr} (h : PT X c (tT' X.K mc)) : PTs X [c] (tT' X.K mc) := pts_one h
theorem ev_lc (hc : X.calm = true) (hN : X.N.Nodup) (hi : PI X tg iter (tI X.K mi)) (ok : BlkOk X.N X.env.scope scope ownN) (ho : ownN.map (·.2) = own) (hus : ∀ j ∈ us, j ∈ own)
    (hg : ∀ (s : Shared) (H : Hp) (C : Addr) (cl : List (Str × Addr)) (fp : List Addr), PG (X.blk s H scope (compEnvC scope cl C X.env) fp) tg (tG X.K us mt)) (ht : ∀ (s : Shared) (H : Hp) (C : Addr) (cl : List (Str × Addr)) (fp : List Addr), PTs (X.blk s H scope (compEnvC scope cl C X.env) fp) ifs (tT' X.K mc))
    (he : ∀ (s : Shared) (H : Hp) (C : Addr) (cl : List (Str × Addr)) (fp : List Addr), PE (X.blk s H scope (compEnvC scope cl C X.env) fp) elt (tE X.K me)) (hs : ∀ x, foldedSetIterable iter X.env x = pure x) :
    PE X (.ListComp elt [⟨tg, iter, ifs, 0⟩] scope pos) (tE X.K (bnd mi fun ds => lcM (lcB mt mc me) own ds)) := by
  subst ho
  exact pe_imp (pe_lc hc hN hi ok hg ht he hs) fun _ _ _ h => t_lcE hus h
theorem es_setLc {i : Nat} {y : Str} {py : Pos} (hc : X.calm = true) (hN : X.N.Nodup) (hy : X.N[i]? = some y) (hyl : X.env.scope.names.lookup y = some .local)
    (hsw : swapsWith (.ListComp elt [⟨tg, iter, ifs, 0⟩] scope pos) (some (.Name y py)) spos.line X.env = pure true) (hi : PI X tg iter (tI X.K mi)) (ok : BlkOk X.N X.env.scope scope ownN) (ho : ownN.map (·.2) = own) (hus : ∀ j ∈ us, j ∈ own)
    (hg : ∀ (s : Shared) (H : Hp) (C : Addr) (cl : List (Str × Addr)) (fp : List Addr), PG (X.blk s H scope (compEnvC scope cl C X.env) fp) tg (tG X.K us mt)) (ht : ∀ (s : Shared) (H : Hp) (C : Addr) (cl : List (Str × Addr)) (fp : List Addr), PTs (X.blk s H scope (compEnvC scope cl C X.env) fp) ifs (tT' X.K mc))
    (he : ∀ (s : Shared) (H : Hp) (C : Addr) (cl : List (Str × Addr)) (fp : List Addr), PE (X.blk s H scope (compEnvC scope cl C X.env) fp) elt (tE X.K me)) (hs : ∀ x, foldedSetIterable iter X.env x = pure x) :
    PS X (.Assign [.Name y py] (.ListComp elt [⟨tg, iter, ifs, 0⟩] scope pos) spos) (tS X.K (bnd (bnd mi fun ds => lcM (lcB mt mc me) own ds) fun d => bnd (put i (.dat d)) fun _ => ret .nx)) := by
  subst ho
  refine ps_imp (ps_setLc hc hN hy hyl hsw hi ok hg ht he hs) fun D σ H h => ?_
  exact t_lcE hus (t_set h)
theorem es_setLcO {i : Nat} {y : Str} {py : Pos} (hc : X.calm = true) (hN : X.N.Nodup) (hy : X.N[i]? = some y) (hyl : X.env.scope.names.lookup y = some .local)
    (hsw : swapsWith (.ListComp elt [⟨tg, iter, ifs, 0⟩] scope pos) (some (.Name y py)) spos.line X.env = pure true) (hi : PI X tg iter (tI X.K mi)) (ok : BlkOk X.N X.env.scope scope ownN) (ho : ownN.map (·.2) = own) (hus : ∀ j ∈ us, j ∈ own)
    (hg : ∀ (s : Shared) (H : Hp) (C : Addr) (cl : List (Str × Addr)) (fp : List Addr), PG (X.blk s H scope (compEnvC scope cl C X.env) fp) tg (tG X.K us mt)) (ht : ∀ (s : Shared) (H : Hp) (C : Addr) (cl : List (Str × Addr)) (fp : List Addr), PTs (X.blk s H scope (compEnvC scope cl C X.env) fp) ifs (tT' X.K mc))
    (he : ∀ (s : Shared) (H : Hp) (C : Addr) (cl : List (Str × Addr)) (fp : List Addr), PE (X.blk s H scope (compEnvC scope cl C X.env) fp) elt (tE X.K me)) (hs : ∀ x, foldedSetIterable iter X.env x = pure x) :
    PS X (.Assign [.Name y py] (.ListComp elt [⟨tg, iter, ifs, 0⟩] scope pos) spos) (tS X.K (bnd (oL (bnd mi fun ds => lcM (lcB mt mc me) own ds)) fun x => bnd (put i x) fun _ => ret .nx)) := by
  subst ho
  refine ps_imp (ps_setLc hc hN hy hyl hsw hi ok hg ht he hs) fun D σ H h => ?_
  exact t_lcO hus (t_setO h)
end
end Pb
end

section
set_option Elab.async false
set_option linter.all false
set_option maxRecDepth 100000
set_option maxHeartbeats 2000000
/-! # A term of the small language and the program's own text -/
namespace Pb
open PySem PySem.Spec L2

structure Sc where
  sc : Scope
  N : List Str
  stor : Str → Bool
def Sc.blk (S : Sc) (scope : Scope) : Sc := ⟨relS scope S.sc, S.N, fun x => scope.names.lookup x == some .cell⟩
def visB (sc : Scope) (x : Str) : Bool := match sc.names.lookup x with
  | some .local => true
  | some .cell => true
  | some .free => true
  | _ => false
def glbB (sc : Scope) (x : Str) : Bool := match sc.names.lookup x with
  | some .globalImplicit => true
  | _ => false
def locB (S : Sc) (x : Str) : Bool := match S.sc.names.lookup x with
  | some .local => true
  | some .cell => S.stor x
  | _ => false
def dbgB (x : Str) : Bool := !(x == ("__debug__" : Str)) && !(x == ("__classdict__" : Str))
def plainE : Expr → Bool
  | .Starred .. => false
  | .Slice .. => false
  | .Set .. => false
  | _ => true
def varB (S : Sc) (i : Nat) (x : Str) : Bool := decide (S.N[i]? = some x) && visB S.sc x && dbgB x
def gB' (S : Sc) (x : Str) : Bool := glbB S.sc x && dbgB x
mutual
def okT (S : Sc) : Tg → Expr → Bool
  | .nm i, e => match e with
    | .Name x _ => decide (S.N[i]? = some x) && locB S x
    | _ => false
  | .tp ts, e => match e with
    | .Tuple es _ _ => okTs S ts es
    | _ => false
def okTs (S : Sc) : Tgs → List Expr → Bool
  | .nil, [] => true
  | .cons t ts, e :: es => okT S t e && okTs S ts es
  | _, _ => false
end
def tysB (S : Sc) : List Ty → List Expr → Bool
  | [], [] => true
  | t :: ts, e :: es => (match e with
    | .Name x _ => x == (tyStr t : Str) && gB' S x
    | _ => false) && tysB S ts es
  | _, _ => false
def ownNames (S : Sc) (own : List Nat) : List (Str × Nat) := own.map fun i => (S.N.getD i "", i)
def isTup : Expr → Bool
  | .Tuple .. => true
  | _ => false
mutual
def okE (S : Sc) : RE → Expr → Bool
  | .var i, e => match e with
    | .Name x _ => varB S i x
    | _ => false
  | .int n, e => match e with
    | .Constant (.int k) _ _ => n == k
    | _ => false
  | .str s, e => match e with
    | .Constant (.str k) _ _ => s == k && PyData.strOk s
    | _ => false
  | .bool b, e => match e with
    | .Constant (.bool k) _ _ => b == k
    | _ => false
  | .none, e => match e with
    | .Constant .none _ _ => true
    | _ => false
  | .glb x, e => match e with
    | .Name y _ => x == y && gB' S x
    | _ => false
  | .tup es, e => match e with
    | .Tuple l _ _ => okEs S es l
    | _ => false
  | .lst es, e => match e with
    | .List l _ => okEs S es l
    | _ => false
  | .bin o a b, e => match e with
    | .BinOp x op y _ => op == bopOf o && okE S a x && okE S b y
    | _ => false
  | .neg a, e => match e with
    | .UnaryOp .USub x _ => okE S a x
    | _ => false
  | .not a, e => match e with
    | .UnaryOp .Not x _ => okE S a x
    | _ => false
  | .and es, e => match e with
    | .BoolOp .And l _ => okEs S es l
    | _ => false
  | .or es, e => match e with
    | .BoolOp .Or l _ => okEs S es l
    | _ => false
  | .cmp o a b, e => match e with
    | .Compare x [op] [y] _ => op == copOf o && okE S a x && okE S b y && plainE y
    | _ => false
  | .chain o p a b c, e => match e with
    | .Compare x [op, op'] [y, z] _ => op == copOf o && op' == copOf p && okE S a x && okE S b y && okE S c z && plainE z
    | _ => false
  | .isN a, e => match e with
    | .Compare x [.Is] [.Constant .none _ _] _ => okE S a x
    | _ => false
  | .notN a, e => match e with
    | .Compare x [.IsNot] [.Constant .none _ _] _ => okE S a x
    | _ => false
  | .ite c a b, e => match e with
    | .IfExp t x y _ => okE S c t && okE S a x && okE S b y && tst c
    | _ => false
  | .isi a t, e => match e with
    | .Call (.Name f _) [x, .Name ty _] [] _ => f == "isinstance" && gB' S f && ty == (tyStr t : Str) && gB' S ty && okE S a x && plainE x
    | _ => false
  | .isiT a ts, e => match e with
    | .Call (.Name f _) [x, .Tuple tes _ _] [] _ => f == "isinstance" && gB' S f && tysB S ts tes && decide (ts.length ≤ 10) && okE S a x && plainE x
    | _ => false
  | .call f es, e => match e with
    | .Call (.Name g _) args [] _ => f == g && gB' S f && okEs S es args
    | _ => false
  | .callIo f i es, e => match e with
    | .Call (.Name g _) (.Name x _ :: args) [] _ => f == g && gB' S f && varB S i x && okEs S es args
    | _ => false
  | .bi b a, e => match e with
    | .Call (.Name f _) [x] [] _ => f == (biStr b : Str) && gB' S f && okE S a x && plainE x
    | _ => false
  | .idx a b, e => match e with
    | .Subscript x y _ => okE S a x && okE S b y && plainE y
    | _ => false
  | .slTo a b, e => match e with
    | .Subscript x (.Slice none (some y) none _) _ => okE S a x && okE S b y
    | _ => false
  | .slFrom a b, e => match e with
    | .Subscript x (.Slice (some y) none none _) _ => okE S a x && okE S b y
    | _ => false
  | .rev a, e => match e with
    | .Subscript x (.Slice none none (some (.UnaryOp .USub (.Constant (.int 1) _ _) _)) _) _ => okE S a x
    | _ => false
  | .lc el t it own, e => match e with
    | .ListComp elt [⟨tg, iter, [], 0⟩] scope _ => blkC S.N S.sc scope (ownNames S own) && okI S it tg iter && plainE iter && okT (S.blk scope) t tg && okE (S.blk scope) el elt && t.slots.all fun i => own.contains i
    | _ => false
  | .lcIf el t it c own, e => match e with
    | .ListComp elt [⟨tg, iter, [cond], 0⟩] scope _ => blkC S.N S.sc scope (ownNames S own) && okI S it tg iter && plainE iter && okT (S.blk scope) t tg && okE (S.blk scope) el elt && okE (S.blk scope) c cond && tst c && t.slots.all fun i => own.contains i
    | _ => false
def okEs (S : Sc) : REs → List Expr → Bool
  | .nil, l => match l with
    | [] => true
    | _ => false
  | .cons r rs, l => match l with
    | e :: es => okE S r e && plainE e && okEs S rs es
    | _ => false
def okI (S : Sc) : RI → Expr → Expr → Bool
  | .seq r, _, e => okE S r e
  | .rng r, _, e => match e with
    | .Call (.Name f _) [x] [] _ => f == "range" && gB' S f && okE S r x && plainE x
    | _ => false
  | .rng2 a b, _, e => match e with
    | .Call (.Name f _) [x, y] [] _ => f == "range" && gB' S f && okE S a x && plainE x && okE S b y && plainE y
    | _ => false
  | .enm r, tg, e => match e with
    | .Call (.Name f _) [x] [] _ => f == "enumerate" && gB' S f && okE S r x && plainE x && isTup tg
    | _ => false
  | .zip a b, tg, e => match e with
    | .Call (.Name f _) [x, y] [] _ => f == "zip" && gB' S f && okE S a x && plainE x && okE S b y && plainE y && isTup tg
    | _ => false
/-- may stand as a test -/
def tst : RE → Bool
  | .ite _ _ _ => false
  | .not a => tst a
  | .and es => tsts es
  | .or es => tsts es
  | _ => true
def tsts : REs → Bool
  | .nil => true
  | .cons r rs => tst r && tsts rs
end
end Pb
end

section
set_option Elab.async false
set_option linter.all false
set_option maxRecDepth 100000
set_option maxHeartbeats 4000000
namespace Pb
open PySem PySem.Spec L2

def blts : List Str := ["isinstance", "int", "bool", "str", "list", "tuple", "len", "all", "any", "sorted", "range", "enumerate", "zip"]
structure Good (X : Cx) (C : Ctx) (S : Sc) : Prop where
  sc : X.env.scope = S.sc
  nn : X.N = S.N
  nd : S.N.Nodup
  calm : X.calm = true
  un : X.A.units + 70 < cLine
  stor : ∀ x, S.stor x = true → X.fn x = true
  gl : ∀ x d, C.gl x = some d → ∃ u v, X.mg x = some u ∧ RelV v u ∧ ∀ F, Dat X.K F v d
  blt : ∀ x ∈ blts, X.mg x = none
  fn : ∀ f, (∀ as, C.fn f as = none) ∨ FnAt X f (C.fn f)
section
variable {X : Cx} {C : Ctx} {S : Sc}
theorem Good.blk (G : Good X C S) (s : Shared) (H : Hp) (scope : Scope) (a : Addr) (cl : List (Str × Addr)) (fp : List Addr) : Good (X.blk s H scope (compEnvC scope cl a X.env) fp) C (S.blk scope) := by
  refine ⟨?_, G.nn, G.nd, G.calm, G.un, fun x hx => hx, G.gl, G.blt, fun f => ?_⟩
  · show relS scope X.env.scope = relS scope S.sc
    rw [G.sc]
  · rcases G.fn f with h | h
    · exact .inl h
    · exact .inr h
theorem Good.vis (G : Good X C S) {x : Str} (h : visB S.sc x = true) : Vis X.env.scope x := by
  unfold visB at h
  rw [← G.sc] at h
  unfold Vis
  split at h
  · exact .inl (by assumption)
  · exact .inr (.inl (by assumption))
  · exact .inr (.inr (by assumption))
  · cases h
theorem Good.glob (G : Good X C S) {x : Str} (h : glbB S.sc x = true) : Gl X x := by
  unfold glbB at h
  rw [← G.sc] at h
  split at h
  · assumption
  · cases h
theorem dbg_1 {x : Str} (h : dbgB x = true) : (x == ("__debug__" : Str)) = false := by
  unfold dbgB at h
  simp only [Bool.and_eq_true, Bool.not_eq_true'] at h
  exact h.1
theorem dbg_2 {x : Str} (h : dbgB x = true) : (x == ("__classdict__" : Str)) = false := by
  unfold dbgB at h
  simp only [Bool.and_eq_true, Bool.not_eq_true'] at h
  exact h.2
theorem s_var (G : Good X C S) {i : Nat} {x : Str} {pos : Pos} (h : varB S i x = true) : PE X (.Name x pos) (tVar i) := by
  unfold varB at h
  simp only [Bool.and_eq_true, decide_eq_true_eq] at h
  exact pe_var (by rw [G.nn]; exact h.1.1) (G.vis h.1.2) (dbg_1 h.2) (dbg_2 h.2)
theorem g_glob (G : Good X C S) {x : Str} (h : gB' S x = true) : Gl X x := by
  unfold gB' at h
  simp only [Bool.and_eq_true] at h
  exact G.glob h.1
theorem g_dbg {x : Str} (h : gB' S x = true) : (x == ("__debug__" : Str)) = false := by
  unfold gB' at h
  simp only [Bool.and_eq_true] at h
  exact dbg_1 h.2
theorem star_of {e : Expr} (h : plainE e = true) (es : List Expr) (env : Env) : starEach (e :: es) env = (false, eval e env) :: starEach es env := by
  cases e <;> first | rfl | cases h
theorem marks_of {e : Expr} (h : plainE e = true) (op : CmpOp) : behindInMarks op e = false := by
  cases e <;> first | rfl | cases h
theorem folded_of {e : Expr} (h : plainE e = true) (env : Env) : ∀ x, foldedSetIterable e env x = pure x := by
  intro x
  cases e <;> first | rfl | cases h
theorem ix_of {e : Expr} (h : plainE e = true) : PlainIx e := by
  intro o i
  cases e <;> first | rfl | cases h
theorem es_plain {env : Env} : ∀ {rs : REs} {es : List Expr} {pos : Pos}, okEs S rs es = true → (backTo pos (starEach es env)).any (·.1) = false
  | .nil, [], _, _ => rfl
  | .nil, _ :: _, _, h => by simp [okEs] at h
  | .cons _ _, [], _, h => by simp [okEs] at h
  | .cons r rs, e :: es, pos, h => by
    simp only [okEs, Bool.and_eq_true] at h
    rw [star_of h.1.2]
    show (false || (backTo pos (starEach es env)).any (·.1)) = false
    rw [es_plain h.2]
    rfl
/-! ### targets -/
theorem Good.loc (G : Good X C S) {i : Nat} {x : Str} {pos : Pos} (h : decide (S.N[i]? = some x) = true) (hl : locB S x = true) : PG X (.Name x pos) (gName i) := by
  have hi : X.N[i]? = some x := by rw [G.nn]; exact of_decide_eq_true h
  unfold locB at hl
  rw [← G.sc] at hl
  split at hl
  · rename_i q
    exact pg_name (by rw [G.nn]; exact G.nd) hi (.inl q) (.inr q)
  · rename_i q
    exact pg_name (by rw [G.nn]; exact G.nd) hi (.inr q) (.inl (G.stor x hl))
  · cases hl
theorem tgt_shape {t : Tg} {e : Expr} (h : okT S t e = true) (env : Env) (es : List Expr) : (assignEach (e :: es) env) = (false, assign e env) :: assignEach es env := by
  cases t with
  | nm i =>
    cases e with
    | Name x p => rfl
    | _ => simp [okT] at h
  | tp ts =>
    cases e with
    | Tuple l k p => rfl
    | _ => simp [okT] at h
theorem okTs_len {env : Env} : ∀ {ts : Tgs} {es : List Expr}, okTs S ts es = true → (assignEach es env).length = ts.len ∧ (assignEach es env).findIdx? (·.1) = none
  | .nil, [], _ => ⟨rfl, rfl⟩
  | .nil, _ :: _, h => by simp [okTs] at h
  | .cons _ _, [], h => by simp [okTs] at h
  | .cons t ts, e :: es, h => by
    simp only [okTs, Bool.and_eq_true] at h
    obtain ⟨h1, h2⟩ := okTs_len (env := env) h.2
    rw [tgt_shape h.1]
    refine ⟨by rw [List.length_cons, h1]; rfl, ?_⟩
    rw [List.findIdx?_cons, h2]
    rfl
mutual
theorem sT (G : Good X C S) : ∀ (t : Tg) (e : Expr), okT S t e = true → PG X e (tG X.K t.slots (bindT t))
  | .nm i, e, h => by
    cases e with
    | Name x p =>
      simp only [okT, Bool.and_eq_true] at h
      exact eg_name (G.loc h.1 h.2)
    | _ => simp [okT] at h
  | .tp ts, e, h => by
    cases e with
    | Tuple l k p =>
      simp only [okT] at h
      obtain ⟨h1, h2⟩ := okTs_len (env := X.env) h
      exact eg_tup G.calm (sTs G ts l h) rfl h1 h2
    | _ => simp [okT] at h
theorem sTs (G : Good X C S) : ∀ (ts : Tgs) (es : List Expr), okTs S ts es = true → PGs X es (tGs X.K ts.slots (bindTs ts))
  | .nil, [], _ => egs_nil
  | .nil, _ :: _, h => by simp [okTs] at h
  | .cons _ _, [], h => by simp [okTs] at h
  | .cons t ts, e :: es, h => by
    simp only [okTs, Bool.and_eq_true] at h
    exact egs_cons (sT G t e h.1) (sTs G ts es h.2) (by rw [tgt_shape h.1]; rfl)
end
theorem tys_of (G : Good X C S) : ∀ {ts : List Ty} {es : List Expr}, tysB S ts es = true → tysA X ts es
  | [], [], _ => trivial
  | [], _ :: _, h => by simp [tysB] at h
  | _ :: _, [], h => by simp [tysB] at h
  | t :: ts, e :: es, h => by
    simp only [tysB, Bool.and_eq_true] at h
    obtain ⟨h1, h2⟩ := h
    cases e with
    | Name x q =>
      simp only [Bool.and_eq_true, beq_iff_eq] at h1
      obtain ⟨rfl, h3⟩ := h1
      exact ⟨⟨q, rfl⟩, g_glob G h3, G.blt _ (by cases t <;> decide), tys_of G h2⟩
    | _ => cases h1
theorem own_map (own : List Nat) : (ownNames S own).map (·.2) = own := by
  unfold ownNames
  rw [List.map_map]
  show own.map (fun i => i) = own
  simp
/-- how an operand is read: a bare name as it is -/
theorem sL (G : Good X C S) {r : RE} {e : Expr} (h : okE S r e = true) (q : PE X e (tE X.K (ev C r))) : PE X e (tL X.K r.isVar (ev C r)) := by
  cases r with
  | var i =>
    cases e with
    | Name x p =>
      simp only [okE] at h
      exact s_var G h
    | _ => simp [okE] at h
  | _ => exact q
theorem sP (G : Good X C S) {r : RE} {e : Expr} (h : okE S r e = true) (q : PE X e (tE X.K (ev C r))) : PE X e (tP X.K (pkO r.isVar (ev C r))) := by
  cases r with
  | var i =>
    cases e with
    | Name x p =>
      simp only [okE] at h
      exact ep_var (s_var G h)
    | _ => simp [okE] at h
  | _ => exact ep_of q
theorem true_of {r : RE} {e : Expr} (h : okE S r e = true) (ht : tst r = true) (hn : ∀ a, r ≠ .not a) (ha : ∀ es, r ≠ .and es) (ho : ∀ es, r ≠ .or es) (hc : ∀ o a b, r ≠ .cmp o a b) (hch : ∀ o p a b c, r ≠ .chain o p a b c) (hi : ∀ a, r ≠ .isN a) (hj : ∀ a, r ≠ .notN a) (env : Env) :
    ∀ whole, isTrue e env whole = (do let v ← whole; standAt e.pos; holding [v] (truthy v)) := by
  intro whole
  cases r with
  | not a => exact absurd rfl (hn a)
  | and es => exact absurd rfl (ha es)
  | or es => exact absurd rfl (ho es)
  | cmp o a b => exact absurd rfl (hc o a b)
  | chain o p a b c => exact absurd rfl (hch o p a b c)
  | isN a => exact absurd rfl (hi a)
  | notN a => exact absurd rfl (hj a)
  | ite c a b => cases ht
  | neg a =>
    cases e with
    | UnaryOp op x p =>
      cases op with
      | USub => rfl
      | _ => simp [okE] at h
    | _ => simp [okE] at h
  | _ => cases e <;> first | rfl | (simp [okE] at h; done)
end
end Pb
end

section
set_option Elab.async false
set_option linter.all false
set_option maxRecDepth 100000
set_option maxHeartbeats 8000000
namespace Pb
open PySem PySem.Spec L2
theorem ev_and_cons (C : Ctx) (e e2 : RE) (es : REs) : evAnd C (.cons e (.cons e2 es)) = bnd (ev C e) fun x => bnd (ofO (asB x)) fun b => if b = true then evAnd C (.cons e2 es) else ret (.bool false) := by
  rw [evAnd]
  exact nofun
theorem ev_or_cons (C : Ctx) (e e2 : RE) (es : REs) : evOr C (.cons e (.cons e2 es)) = bnd (ev C e) fun x => bnd (ofO (asB x)) fun b => if b = true then ret (.bool true) else evOr C (.cons e2 es) := by
  rw [evOr]
  exact nofun
theorem bnd_none {α β : Type} {m : M α} {k : α → M β} {ρ : Rho} (h : ∀ a ρ, k a ρ = none) : bnd m k ρ = none := by
  unfold bnd
  split
  · rfl
  · exact h _ _
theorem doCall_none {C : Ctx} {f : Str} (hn : ∀ as, C.fn f as = none) (ds : List PyData) (ρ : Rho) : doCall C f ds ρ = none := by
  unfold doCall
  rw [hn]
  rfl
theorem doIo_none {C : Ctx} {f : Str} {i : Nat} (hn : ∀ as, C.fn f as = none) (ds : List PyData) (ρ : Rho) : doIo C f i ds ρ = none := by
  unfold doIo
  refine bnd_none fun a ρ => ?_
  rw [hn]
  rfl
theorem contains_all {us own : List Nat} (h : (us.all fun i => own.contains i) = true) : ∀ j ∈ us, j ∈ own := fun j hj => by
  have := List.all_eq_true.mp h j hj
  simpa using this
mutual
theorem sE {C : Ctx} : ∀ (r : RE) {X : Cx} {S : Sc} {e : Expr}, Good X C S → okE S r e = true → PE X e (tE X.K (ev C r)) ∧ (tst r = true → PT X e (tT' X.K (ev C r)))
  | .var i, X, S, e, G, h => by
    have hp : PE X e (tE X.K (ev C (.var i))) := by
      cases e with
      | Name x p => simp only [okE] at h; simp only [ev]; exact ev_var (s_var G h)
      | _ => simp [okE] at h
    exact ⟨hp, fun ht => et_val hp (true_of h ht nofun nofun nofun nofun nofun nofun nofun X.env)⟩
  | .int n, X, S, e, G, h => by
    have hp : PE X e (tE X.K (ev C (.int n))) := by
      cases e with
      | Constant c k p =>
        cases c with
        | int j =>
          simp only [okE, beq_iff_eq] at h
          subst h
          simp only [ev]
          exact ev_const pe_int fun F => .int _
        | _ => simp [okE] at h
      | _ => simp [okE] at h
    exact ⟨hp, fun ht => et_val hp (true_of h ht nofun nofun nofun nofun nofun nofun nofun X.env)⟩
  | .str z, X, S, e, G, h => by
    have hp : PE X e (tE X.K (ev C (.str z))) := by
      cases e with
      | Constant c k p =>
        cases c with
        | str j =>
          simp only [okE, Bool.and_eq_true, beq_iff_eq] at h
          obtain ⟨rfl, h2⟩ := h
          simp only [ev]
          exact ev_const pe_str fun F => .str _ h2
        | _ => simp [okE] at h
      | _ => simp [okE] at h
    exact ⟨hp, fun ht => et_val hp (true_of h ht nofun nofun nofun nofun nofun nofun nofun X.env)⟩
  | .bool b, X, S, e, G, h => by
    have hp : PE X e (tE X.K (ev C (.bool b))) := by
      cases e with
      | Constant c k p =>
        cases c with
        | bool j =>
          simp only [okE, beq_iff_eq] at h
          subst h
          simp only [ev]
          exact ev_const pe_bl fun F => .bl _
        | _ => simp [okE] at h
      | _ => simp [okE] at h
    exact ⟨hp, fun ht => et_val hp (true_of h ht nofun nofun nofun nofun nofun nofun nofun X.env)⟩
  | .none, X, S, e, G, h => by
    have hp : PE X e (tE X.K (ev C .none)) := by
      cases e with
      | Constant c k p =>
        cases c with
        | none =>
          simp only [ev]
          exact ev_const pe_non fun F => .non
        | _ => simp [okE] at h
      | _ => simp [okE] at h
    exact ⟨hp, fun ht => et_val hp (true_of h ht nofun nofun nofun nofun nofun nofun nofun X.env)⟩
  | .glb y, X, S, e, G, h => by
    have hp : PE X e (tE X.K (ev C (.glb y))) := by
      cases e with
      | Name x p =>
        simp only [okE, Bool.and_eq_true, beq_iff_eq] at h
        obtain ⟨rfl, h2⟩ := h
        simp only [ev]
        cases q : C.gl y with
        | none => exact ev_none fun ρ => rfl
        | some d =>
          obtain ⟨u, v, m1, m2, m3⟩ := G.gl y d q
          exact ev_const (pe_glob (g_glob G h2) m1 m2 (g_dbg h2)) m3
      | _ => simp [okE] at h
    exact ⟨hp, fun ht => et_val hp (true_of h ht nofun nofun nofun nofun nofun nofun nofun X.env)⟩
  | .tup es, X, S, e, G, h => by
    have hp : PE X e (tE X.K (ev C (.tup es))) := by
      cases e with
      | Tuple l k p => simp only [okE] at h; simp only [ev]; exact ev_tup (sEs es G h)
      | _ => simp [okE] at h
    exact ⟨hp, fun ht => et_val hp (true_of h ht nofun nofun nofun nofun nofun nofun nofun X.env)⟩
  | .lst es, X, S, e, G, h => by
    have hp : PE X e (tE X.K (ev C (.lst es))) := by
      cases e with
      | List l p => simp only [okE] at h; simp only [ev]; exact ev_lst (sEs es G h)
      | _ => simp [okE] at h
    exact ⟨hp, fun ht => et_val hp (true_of h ht nofun nofun nofun nofun nofun nofun nofun X.env)⟩
  | .bin o a b, X, S, e, G, h => by
    have hp : PE X e (tE X.K (ev C (.bin o a b))) := by
      cases e with
      | BinOp x op y p =>
        simp only [okE, Bool.and_eq_true, beq_iff_eq] at h
        obtain ⟨⟨rfl, h2⟩, h3⟩ := h
        simp only [ev]
        exact ev_bin o (sE a G h2).1 (sE b G h3).1
      | _ => simp [okE] at h
    exact ⟨hp, fun ht => et_val hp (true_of h ht nofun nofun nofun nofun nofun nofun nofun X.env)⟩
  | .neg a, X, S, e, G, h => by
    have hp : PE X e (tE X.K (ev C (.neg a))) := by
      cases e with
      | UnaryOp op x p =>
        cases op with
        | USub => simp only [okE] at h; simp only [ev]; exact ev_neg (sE a G h).1
        | _ => simp [okE] at h
      | _ => simp [okE] at h
    exact ⟨hp, fun ht => et_val hp (true_of h ht nofun nofun nofun nofun nofun nofun nofun X.env)⟩
  | .not a, X, S, e, G, h => by
    cases e with
    | UnaryOp op x p =>
      cases op with
      | Not =>
        simp only [okE] at h
        obtain ⟨h1, h2⟩ := sE a G h
        simp only [ev, tst]
        exact ⟨ev_not h1, fun ht => et_not (h2 ht)⟩
      | _ => simp [okE] at h
    | _ => simp [okE] at h
  | .and es, X, S, e, G, h => by
    cases e with
    | BoolOp op l p =>
      cases op with
      | And =>
        simp only [okE] at h
        simp only [ev, tst]
        obtain ⟨h1, h2⟩ := sAnd es p G h
        exact ⟨h1, fun ht => (h2 ht).pt⟩
      | Or => simp [okE] at h
    | _ => simp [okE] at h
  | .or es, X, S, e, G, h => by
    cases e with
    | BoolOp op l p =>
      cases op with
      | Or =>
        simp only [okE] at h
        simp only [ev, tst]
        obtain ⟨h1, h2⟩ := sOr es p G h
        exact ⟨h1, fun ht => (h2 ht).pt⟩
      | And => simp [okE] at h
    | _ => simp [okE] at h
  | .cmp o a b, X, S, e, G, h => by
    simp only [okE] at h
    split at h
    · simp only [Bool.and_eq_true, beq_iff_eq] at h
      obtain ⟨⟨⟨rfl, h2⟩, h3⟩, h4⟩ := h
      have ha := sL G h2 (sE a G h2).1
      have hb := sP G h3 (sE b G h3).1
      have hu : X.A.units + 65 < cLine := by have := G.un; omega
      simp only [ev]
      exact ⟨ev_cmp hu ha hb (marks_of h4 _), fun _ => et_cmp hu ha hb (marks_of h4 _)⟩
    · cases h
  | .chain o q a b c, X, S, e, G, h => by
    simp only [okE] at h
    split at h
    · simp only [Bool.and_eq_true, beq_iff_eq] at h
      obtain ⟨⟨⟨⟨⟨rfl, rfl⟩, h2⟩, h3⟩, h4⟩, h5⟩ := h
      have hu : X.A.units + 65 < cLine := by have := G.un; omega
      simp only [ev]
      exact ⟨ev_chain hu (sE a G h2).1 (sE b G h3).1 (sE c G h4).1 (marks_of h5 _), fun _ => et_chain hu (sE a G h2).1 (sE b G h3).1 (sE c G h4).1 (marks_of h5 _)⟩
    · cases h
  | .isN a, X, S, e, G, h => by
    simp only [okE] at h
    split at h
    · simp only [ev]
      exact ⟨ev_isN (sE a G h).1, fun _ => et_isN (sE a G h).1⟩
    · cases h
  | .notN a, X, S, e, G, h => by
    simp only [okE] at h
    split at h
    · simp only [ev]
      exact ⟨ev_notN (sE a G h).1, fun _ => et_notN (sE a G h).1⟩
    · cases h
  | .ite c a b, X, S, e, G, h => by
    cases e with
    | IfExp t x y p =>
      simp only [okE, Bool.and_eq_true] at h
      obtain ⟨⟨⟨h1, h2⟩, h3⟩, h4⟩ := h
      simp only [ev]
      exact ⟨ev_ite ((sE c G h1).2 h4) (sE a G h2).1 (sE b G h3).1, fun ht => by simp [tst] at ht⟩
    | _ => simp [okE] at h
  | .isi a t, X, S, e, G, h => by
    have hp : PE X e (tE X.K (ev C (.isi a t))) := by
      simp only [okE] at h
      split at h
      · simp only [Bool.and_eq_true, beq_iff_eq] at h
        obtain ⟨⟨⟨⟨⟨rfl, h2⟩, rfl⟩, h4⟩, h5⟩, h6⟩ := h
        simp only [ev]
        exact ev_isi (sE a G h5).1 (g_glob G h2) (G.blt _ (by decide)) (g_glob G h4) (G.blt _ (by cases t <;> decide)) (star_of h6 _ _)
      · cases h
    exact ⟨hp, fun ht => et_val hp (true_of h ht nofun nofun nofun nofun nofun nofun nofun X.env)⟩
  | .isiT a ts, X, S, e, G, h => by
    have hp : PE X e (tE X.K (ev C (.isiT a ts))) := by
      simp only [okE] at h
      split at h
      · simp only [Bool.and_eq_true, beq_iff_eq, decide_eq_true_eq] at h
        obtain ⟨⟨⟨⟨⟨rfl, h2⟩, h3⟩, h4⟩, h5⟩, h6⟩ := h
        simp only [ev]
        exact ev_isiT (sE a G h5).1 (g_glob G h2) (G.blt _ (by decide)) (tys_of G h3) h4 (star_of h6 _ _)
      · cases h
    exact ⟨hp, fun ht => et_val hp (true_of h ht nofun nofun nofun nofun nofun nofun nofun X.env)⟩
  | .call f es, X, S, e, G, h => by
    have hp : PE X e (tE X.K (ev C (.call f es))) := by
      simp only [okE] at h
      split at h
      · rename_i p1 args p2
        simp only [Bool.and_eq_true, beq_iff_eq] at h
        obtain ⟨⟨rfl, h2⟩, h3⟩ := h
        simp only [ev]
        rcases G.fn f with hn | hF
        · exact ev_none fun ρ => bnd_none fun ds ρ => doCall_none hn ds ρ
        · have hA := sEs es G h3
          cases es with
          | nil =>
            cases args with
            | nil => simp only [evs]; exact ev_call0 hF (g_glob G h2) (g_dbg h2)
            | cons _ _ => simp [okEs] at h3
          | cons r rs =>
            cases args with
            | nil => simp [okEs] at h3
            | cons a as =>
              simp only [okEs, Bool.and_eq_true] at h3
              exact ev_call hF (g_glob G h2) (g_dbg h2) hA (star_of h3.1.2 _ _) (es_plain h3.2)
      · cases h
    exact ⟨hp, fun ht => et_val hp (true_of h ht nofun nofun nofun nofun nofun nofun nofun X.env)⟩
  | .callIo f i es, X, S, e, G, h => by
    have hp : PE X e (tE X.K (ev C (.callIo f i es))) := by
      simp only [okE] at h
      split at h
      · simp only [Bool.and_eq_true, beq_iff_eq] at h
        obtain ⟨⟨⟨rfl, h2⟩, h3⟩, h4⟩ := h
        simp only [ev]
        rcases G.fn f with hn | hF
        · exact ev_none fun ρ => bnd_none fun _ ρ => bnd_none fun ds ρ => doIo_none hn ds ρ
        · exact ev_io hF (g_glob G h2) (g_dbg h2) (s_var G h3) (sEs es G h4) (es_plain h4)
      · cases h
    exact ⟨hp, fun ht => et_val hp (true_of h ht nofun nofun nofun nofun nofun nofun nofun X.env)⟩
  | .bi f a, X, S, e, G, h => by
    have hp : PE X e (tE X.K (ev C (.bi f a))) := by
      simp only [okE] at h
      split at h
      · simp only [Bool.and_eq_true, beq_iff_eq] at h
        obtain ⟨⟨⟨rfl, h2⟩, h3⟩, h4⟩ := h
        simp only [ev]
        have hm : X.mg (biStr f) = none := G.blt _ (by cases f <;> decide)
        by_cases hf : f = .len
        · subst hf
          exact ev_len (sP G h3 (sE a G h3).1) (g_glob G h2) hm (star_of h4 _ _)
        · have hev : biVar f a.isVar = none := by cases f <;> first | rfl | exact absurd rfl hf
          rw [hev]
          exact ev_bi hf G.un G.calm (sE a G h3).1 (g_glob G h2) hm (star_of h4 _ _)
      · cases h
    exact ⟨hp, fun ht => et_val hp (true_of h ht nofun nofun nofun nofun nofun nofun nofun X.env)⟩
  | .idx a b, X, S, e, G, h => by
    have hp : PE X e (tE X.K (ev C (.idx a b))) := by
      cases e with
      | Subscript x y p =>
        simp only [okE, Bool.and_eq_true] at h
        simp only [ev]
        exact ev_idx (sL G h.1.1 (sE a G h.1.1).1) (sE b G h.1.2).1 (ix_of h.2)
      | _ => simp [okE] at h
    exact ⟨hp, fun ht => et_val hp (true_of h ht nofun nofun nofun nofun nofun nofun nofun X.env)⟩
  | .slTo a b, X, S, e, G, h => by
    have hp : PE X e (tE X.K (ev C (.slTo a b))) := by
      simp only [okE] at h
      split at h
      · simp only [Bool.and_eq_true] at h
        simp only [ev]
        exact ev_slTo (sE a G h.1).1 (sE b G h.2).1
      · cases h
    exact ⟨hp, fun ht => et_val hp (true_of h ht nofun nofun nofun nofun nofun nofun nofun X.env)⟩
  | .slFrom a b, X, S, e, G, h => by
    have hp : PE X e (tE X.K (ev C (.slFrom a b))) := by
      simp only [okE] at h
      split at h
      · simp only [Bool.and_eq_true] at h
        simp only [ev]
        exact ev_slFrom (sE a G h.1).1 (sE b G h.2).1
      · cases h
    exact ⟨hp, fun ht => et_val hp (true_of h ht nofun nofun nofun nofun nofun nofun nofun X.env)⟩
  | .rev a, X, S, e, G, h => by
    have hp : PE X e (tE X.K (ev C (.rev a))) := by
      simp only [okE] at h
      split at h
      · simp only [ev]
        exact ev_rev (sE a G h).1
      · cases h
    exact ⟨hp, fun ht => et_val hp (true_of h ht nofun nofun nofun nofun nofun nofun nofun X.env)⟩
  | .lc el t it own, X, S, e, G, h => by
    have hp : PE X e (tE X.K (ev C (.lc el t it own))) := by
      simp only [okE] at h
      split at h
      · simp only [Bool.and_eq_true] at h
        obtain ⟨⟨⟨⟨⟨h1, h2⟩, h3⟩, h4⟩, h5⟩, h6⟩ := h
        simp only [ev]
        exact ev_lc G.calm (by rw [G.nn]; exact G.nd) (sI it G h2) (by rw [G.nn, G.sc]; exact blkOk_by h1) (own_map own) (contains_all h6) (fun s H c cl fp => sT (G.blk s H _ c cl fp) t _ h4) (fun s H c cl fp => ets_nil) (fun s H c cl fp => (sE el (G.blk s H _ c cl fp) h5).1) (folded_of h3 _)
      · cases h
    exact ⟨hp, fun ht => et_val hp (true_of h ht nofun nofun nofun nofun nofun nofun nofun X.env)⟩
  | .lcIf el t it c own, X, S, e, G, h => by
    have hp : PE X e (tE X.K (ev C (.lcIf el t it c own))) := by
      simp only [okE] at h
      split at h
      · simp only [Bool.and_eq_true] at h
        obtain ⟨⟨⟨⟨⟨⟨⟨h1, h2⟩, h3⟩, h4⟩, h5⟩, h6⟩, h7⟩, h8⟩ := h
        simp only [ev]
        exact ev_lc G.calm (by rw [G.nn]; exact G.nd) (sI it G h2) (by rw [G.nn, G.sc]; exact blkOk_by h1) (own_map own) (contains_all h8) (fun s H a cl fp => sT (G.blk s H _ a cl fp) t _ h4) (fun s H a cl fp => ets_one ((sE c (G.blk s H _ a cl fp) h6).2 h7)) (fun s H a cl fp => (sE el (G.blk s H _ a cl fp) h5).1) (folded_of h3 _)
      · cases h
    exact ⟨hp, fun ht => et_val hp (true_of h ht nofun nofun nofun nofun nofun nofun nofun X.env)⟩
theorem sEs {C : Ctx} : ∀ (rs : REs) {X : Cx} {S : Sc} {es : List Expr}, Good X C S → okEs S rs es = true → PA X es (tA X.K (evs C rs))
  | .nil, X, S, es, G, h => by
    cases es with
    | nil => simp only [evs]; exact ea_nil
    | cons _ _ => simp [okEs] at h
  | .cons r rs, X, S, es, G, h => by
    cases es with
    | nil => simp [okEs] at h
    | cons a as =>
      simp only [okEs, Bool.and_eq_true] at h
      simp only [evs]
      exact ea_cons (sE r G h.1.1).1 (sEs rs G h.2) (star_of h.1.2 _ _)
theorem sAnd {C : Ctx} : ∀ (rs : REs) {X : Cx} {S : Sc} {es : List Expr} (p : Pos), Good X C S → okEs S rs es = true → PE X (.BoolOp .And es p) (tE X.K (evAnd C rs)) ∧ (tsts rs = true → PW X (.BoolOp .And es p) (tT' X.K (evAnd C rs)))
  | .nil, X, S, es, p, G, h => ⟨ev_none fun ρ => by rw [evAnd]; rfl, fun _ => ⟨fun wh pins s σ H Q I ⟨B, ρ, F, b, ρ', R, h1, k⟩ => by rw [evAnd] at h1; exact (fail_inv h1).elim⟩⟩
  | .cons r .nil, X, S, es, p, G, h => by
    cases es with
    | nil => simp [okEs] at h
    | cons a as =>
      simp only [okEs, Bool.and_eq_true] at h
      cases as with
      | cons _ _ => simp at h
      | nil =>
        obtain ⟨h1, h2⟩ := sE r G h.1.1
        rw [evAnd]
        exact ⟨ev_one h1, fun ht => et_and1 (h2 (by simp only [tsts, Bool.and_eq_true] at ht; exact ht.1))⟩
  | .cons r (.cons r2 rs), X, S, es, p, G, h => by
    cases es with
    | nil => simp [okEs] at h
    | cons a as =>
      have h' : okE S r a = true ∧ okEs S (.cons r2 rs) as = true := by
        rw [okEs] at h
        simp only [Bool.and_eq_true] at h
        exact ⟨h.1.1, h.2⟩
      cases as with
      | nil => have := h'.2; simp [okEs] at this
      | cons b bs =>
        obtain ⟨h1, h2⟩ := sE r G h'.1
        obtain ⟨h3, h4⟩ := sAnd (.cons r2 rs) p G h'.2
        rw [ev_and_cons]
        exact ⟨ev_and h1 h3, fun ht => by
          rw [tsts, Bool.and_eq_true] at ht
          exact et_and (h2 ht.1) (h4 ht.2)⟩
theorem sOr {C : Ctx} : ∀ (rs : REs) {X : Cx} {S : Sc} {es : List Expr} (p : Pos), Good X C S → okEs S rs es = true → PE X (.BoolOp .Or es p) (tE X.K (evOr C rs)) ∧ (tsts rs = true → PW X (.BoolOp .Or es p) (tT' X.K (evOr C rs)))
  | .nil, X, S, es, p, G, h => ⟨ev_none fun ρ => by rw [evOr]; rfl, fun _ => ⟨fun wh pins s σ H Q I ⟨B, ρ, F, b, ρ', R, h1, k⟩ => by rw [evOr] at h1; exact (fail_inv h1).elim⟩⟩
  | .cons r .nil, X, S, es, p, G, h => by
    cases es with
    | nil => simp [okEs] at h
    | cons a as =>
      simp only [okEs, Bool.and_eq_true] at h
      cases as with
      | cons _ _ => simp at h
      | nil =>
        obtain ⟨h1, h2⟩ := sE r G h.1.1
        rw [evOr]
        exact ⟨ev_one h1, fun ht => et_or1 (h2 (by simp only [tsts, Bool.and_eq_true] at ht; exact ht.1))⟩
  | .cons r (.cons r2 rs), X, S, es, p, G, h => by
    cases es with
    | nil => simp [okEs] at h
    | cons a as =>
      have h' : okE S r a = true ∧ okEs S (.cons r2 rs) as = true := by
        rw [okEs] at h
        simp only [Bool.and_eq_true] at h
        exact ⟨h.1.1, h.2⟩
      cases as with
      | nil => have := h'.2; simp [okEs] at this
      | cons b bs =>
        obtain ⟨h1, h2⟩ := sE r G h'.1
        obtain ⟨h3, h4⟩ := sOr (.cons r2 rs) p G h'.2
        rw [ev_or_cons]
        exact ⟨ev_or h1 h3, fun ht => by
          rw [tsts, Bool.and_eq_true] at ht
          exact et_or (h2 ht.1) (h4 ht.2)⟩
theorem sI {C : Ctx} : ∀ (it : RI) {X : Cx} {S : Sc} {tg e : Expr}, Good X C S → okI S it tg e = true → PI X tg e (tI X.K (evI C it))
  | .seq r, X, S, tg, e, G, h => by
    simp only [okI] at h
    simp only [evI]
    exact ei_seq (sE r G h).1
  | .rng r, X, S, tg, e, G, h => by
    simp only [okI] at h
    split at h
    · simp only [Bool.and_eq_true, beq_iff_eq] at h
      obtain ⟨⟨⟨rfl, h2⟩, h3⟩, h4⟩ := h
      simp only [evI]
      exact ei_rng (g_glob G h2) (G.blt _ (by decide)) (sE r G h3).1 (star_of h4 _ _)
    · cases h
  | .rng2 a b, X, S, tg, e, G, h => by
    simp only [okI] at h
    split at h
    · simp only [Bool.and_eq_true, beq_iff_eq] at h
      obtain ⟨⟨⟨⟨⟨rfl, h2⟩, h3⟩, h4⟩, h5⟩, h6⟩ := h
      simp only [evI]
      exact ei_rng2 (g_glob G h2) (G.blt _ (by decide)) (sE a G h3).1 (sE b G h5).1 (by rw [star_of h4, star_of h6]; rfl) (star_of h6 _ _)
    · cases h
  | .enm r, X, S, tg, e, G, h => by
    simp only [okI] at h
    split at h
    · simp only [Bool.and_eq_true, beq_iff_eq] at h
      obtain ⟨⟨⟨⟨rfl, h2⟩, h3⟩, h4⟩, h5⟩ := h
      simp only [evI]
      cases tg with
      | Tuple l k q => exact ei_enm (g_glob G h2) (G.blt _ (by decide)) (sE r G h3).1 (star_of h4 _ _)
      | _ => cases h5
    · cases h
  | .zip a b, X, S, tg, e, G, h => by
    simp only [okI] at h
    split at h
    · simp only [Bool.and_eq_true, beq_iff_eq] at h
      obtain ⟨⟨⟨⟨⟨⟨rfl, h2⟩, h3⟩, h4⟩, h5⟩, h6⟩, h7⟩ := h
      simp only [evI]
      cases tg with
      | Tuple l k q => exact ei_zip (g_glob G h2) (G.blt _ (by decide)) (sE a G h3).1 (sE b G h5).1 (star_of h4 _ _) (star_of h6 _ _) (by rw [star_of h6]; rfl)
      | _ => cases h7
    · cases h
end
end Pb
end

section
set_option Elab.async false
set_option linter.all false
set_option maxRecDepth 100000
set_option maxHeartbeats 4000000
namespace Pb
open PySem PySem.Spec L2
/-! ### statements -/
def isComp : Expr → Bool
  | .ListComp .. => true
  | .SetComp .. => true
  | .DictComp .. => true
  | _ => false
/-- whether y = [..] stores within the comprehension's frame -/
def swB (S : Sc) (y : Str) (py : Pos) (e : Expr) : Bool := match e with
  | .ListComp _ _ scope pos => (S.sc.names.lookup y == some .local) && py.line == pos.line && !(scope.names.any fun (n, k) => n == y && (k == .local || k == .cell))
  | _ => false
theorem sw_lc {elt : Expr} {gs : List Comprehension} {scope : Scope} {pos py : Pos} {y : Str} {l : Nat} {env : Env} {S : Sc} (hk : env.scope.kind = .function) (hS : env.scope = S.sc) :
    swapsWith (.ListComp elt gs scope pos) (some (.Name y py)) l env = pure (swB S y py (.ListComp elt gs scope pos)) := by
  have hb : env.blockKind = .function := by unfold Env.blockKind; rw [hk]; rfl
  have ky : env.kindOf y = S.sc.names.lookup y := by rw [← hS]; rfl
  unfold swapsWith swB
  simp only [hb, ky, Expr.pos]
  rfl
theorem sw_plain {e : Expr} (h : isComp e = false) (t : Option Expr) (l : Nat) (env : Env) : swapsWith e t l env = pure false := by
  cases e <;> first | rfl | cases h
theorem sw_tgt {e : Expr} (t : Expr) (ht : ∀ x p, t ≠ .Name x p) (l : Nat) (env : Env) : swapsWith e (some t) l env = pure false := by
  cases e <;> first | rfl | (cases t <;> first | rfl | exact absurd rfl (ht _ _))
theorem sws_tup {e : Expr} {es : List Expr} {k : Nat} {p : Pos} (l : Nat) (env : Env) : swapsWithSole [.Tuple es k p] e l env = pure false := sw_tgt (.Tuple es k p) (fun _ _ h => by cases h) l env
theorem sws_sub {e o k : Expr} {p : Pos} (l : Nat) (env : Env) : swapsWithSole [.Subscript o k p] e l env = pure false := sw_tgt (.Subscript o k p) (fun _ _ h => by cases h) l env
def okO (S : Sc) : RE → Expr → Bool
  | .lst es, e => okE S (.lst es) e
  | .bi .list a, e => okE S (.bi .list a) e
  | .call f es, e => okE S (.call f es) e
  | .lc el t it own, e => okE S (.lc el t it own) e
  | .lcIf el t it c own, e => okE S (.lcIf el t it c own) e
  | .bin .add a b, e => okE S (.bin .add a b) e
  | _, _ => false
section
variable {X : Cx} {C : Ctx} {S : Sc}
theorem od_addO : OpR X (binaryOp .Add) (fun x y H Q => ∃ (B : Bs) (ρ : Rho) (σ : St) (F : Hp) (dx dy : PyData) (ds : List PyData), Rp X.K B ρ σ F H ∧ Dat X.K F x dx ∧ Dat X.K F y dy ∧ opBin .add dx dy = some (.list ds) ∧
    ∀ v H', NewL X.K B ρ σ F H' v ds → Rp X.K B ρ σ F H' → Q v H') := by
  intro pins s σ H x y v u Q I rx ry ⟨B, ρ, σ', F, dx, dy, fs, R, hx, hy, e, k⟩
  cases hx with
  | int i => cases hy <;> cases e
  | @lst a xs ds h1 h2 h3 =>
    cases hy with
    | @lst b ys es g1 g2 g3 =>
      have e' : (if ds.length + es.length ≤ lim then some (PyData.list (ds ++ es)) else none) = some (.list fs) := e
      split at e'
      · rename_i hle
        cases e'
        have hl : (xs ++ ys).length ≤ lim := by rw [List.length_append, h3.len, g3.len]; exact hle
        refine op_catL pins s σ H _ _ v u Q I rx ry ⟨a, b, xs, ys, rfl, rfl, R.sub.seq h1, R.sub.seq g1, lim_le (by rw [← List.length_append]; exact hl), fun p hp => ?_⟩
        exact k _ _ ⟨p, xs ++ ys, rfl, R.sub.free hp, upd_same, hl, h3.app g3, R.fresh_H0 hp, fun j m => R.fresh_mine hp j m, R.fresh_ex hp⟩ (R.newH hp)
      · cases e'
    | _ => cases e
  | @tup a xs ds h1 h2 h3 =>
    cases hy with
    | @tup b ys es g1 g2 g3 =>
      have e' : (if ds.length + es.length ≤ lim then some (PyData.tuple (ds ++ es)) else none) = some (.list fs) := e
      split at e' <;> cases e'
    | _ => cases e
  | _ => cases hy <;> cases e
theorem eo_add {a b : Expr} {ma mb : M PyData} {pos : Pos} (ha : PE X a (tE X.K ma)) (hb : PE X b (tE X.K mb)) : PE X (.BinOp a .Add b pos) (tO X.K (oL (bnd ma fun x => bnd mb fun y => ofO (opBin .add x y)))) :=
  pe_imp (pe_op od_addO ha hb) fun σ H Q ⟨B, ρ, F, d, ρ', R, h1, k⟩ => by
  obtain ⟨w, ρ0, e0, h0⟩ := bnd_inv h1
  obtain ⟨x, ρ1, e1, h2⟩ := bnd_inv e0
  obtain ⟨y, ρ2, e2, h3⟩ := bnd_inv h2
  obtain ⟨e3, rfl⟩ := ofO_inv h3
  cases w with
  | list ds =>
    obtain ⟨rfl, rfl⟩ := ret_inv h0
    refine ⟨B, ρ, F, x, ρ1, R, e1, fun vx F1 H1 s1 dx R1 => ⟨B, ρ1, F1, y, ρ2, R1, e2, fun vy F2 H2 s2 dy R2 => ?_⟩⟩
    exact ⟨B, ρ2, σ, F2, x, y, ds, R2, Dat.mono s2 _ _ dx, dy, e3, fun v H' hn hr => k v F2 H' (s1.trans s2) hn hr⟩
  | _ => exact (fail_inv h0).elim
theorem evO_oL (e : RE) (h : ∀ f es, e ≠ .call f es) : evO C e = oL (ev C e) := by
  cases e with
  | call f es => exact absurd rfl (h f es)
  | _ => rfl
/-- a comprehension's parts -/
theorem lc_parts (G : Good X C S) {el : RE} {t : Tg} {it : RI} {own : List Nat} {e : Expr} (h : okE S (.lc el t it own) e = true) : ∃ elt tg iter scope pos, e = .ListComp elt [⟨tg, iter, [], 0⟩] scope pos ∧ PI X tg iter (tI X.K (evI C it)) ∧ BlkOk X.N X.env.scope scope (ownNames S own) ∧ (∀ j ∈ t.slots, j ∈ own) ∧
    (∀ (s : Shared) (H : Hp) (a : Addr) (cl : List (Str × Addr)) (fp : List Addr), PG (X.blk s H scope (compEnvC scope cl a X.env) fp) tg (tG X.K t.slots (bindT t))) ∧
    (∀ (s : Shared) (H : Hp) (a : Addr) (cl : List (Str × Addr)) (fp : List Addr), PTs (X.blk s H scope (compEnvC scope cl a X.env) fp) [] (tT' X.K (ret (.bool true)))) ∧
    (∀ (s : Shared) (H : Hp) (a : Addr) (cl : List (Str × Addr)) (fp : List Addr), PE (X.blk s H scope (compEnvC scope cl a X.env) fp) elt (tE X.K (ev C el))) ∧ ∀ x, foldedSetIterable iter X.env x = pure x := by
  simp only [okE] at h
  split at h
  · simp only [Bool.and_eq_true] at h
    obtain ⟨⟨⟨⟨⟨h1, h2⟩, h3⟩, h4⟩, h5⟩, h6⟩ := h
    exact ⟨_, _, _, _, _, rfl, sI it G h2, by rw [G.nn, G.sc]; exact blkOk_by h1, contains_all h6, fun s H c cl fp => sT (G.blk s H _ c cl fp) t _ h4, fun s H c cl fp => ets_nil, fun s H c cl fp => (sE el (G.blk s H _ c cl fp) h5).1, folded_of h3 _⟩
  · cases h
theorem lcIf_parts (G : Good X C S) {el c : RE} {t : Tg} {it : RI} {own : List Nat} {e : Expr} (h : okE S (.lcIf el t it c own) e = true) : ∃ elt tg iter cond scope pos, e = .ListComp elt [⟨tg, iter, [cond], 0⟩] scope pos ∧ PI X tg iter (tI X.K (evI C it)) ∧ BlkOk X.N X.env.scope scope (ownNames S own) ∧ (∀ j ∈ t.slots, j ∈ own) ∧
    (∀ (s : Shared) (H : Hp) (a : Addr) (cl : List (Str × Addr)) (fp : List Addr), PG (X.blk s H scope (compEnvC scope cl a X.env) fp) tg (tG X.K t.slots (bindT t))) ∧
    (∀ (s : Shared) (H : Hp) (a : Addr) (cl : List (Str × Addr)) (fp : List Addr), PTs (X.blk s H scope (compEnvC scope cl a X.env) fp) [cond] (tT' X.K (ev C c))) ∧
    (∀ (s : Shared) (H : Hp) (a : Addr) (cl : List (Str × Addr)) (fp : List Addr), PE (X.blk s H scope (compEnvC scope cl a X.env) fp) elt (tE X.K (ev C el))) ∧ ∀ x, foldedSetIterable iter X.env x = pure x := by
  simp only [okE] at h
  split at h
  · simp only [Bool.and_eq_true] at h
    obtain ⟨⟨⟨⟨⟨⟨⟨h1, h2⟩, h3⟩, h4⟩, h5⟩, h6⟩, h7⟩, h8⟩ := h
    exact ⟨_, _, _, _, _, _, rfl, sI it G h2, by rw [G.nn, G.sc]; exact blkOk_by h1, contains_all h8, fun s H a cl fp => sT (G.blk s H _ a cl fp) t _ h4, fun s H a cl fp => ets_one ((sE c (G.blk s H _ a cl fp) h6).2 h7), fun s H a cl fp => (sE el (G.blk s H _ a cl fp) h5).1, folded_of h3 _⟩
  · cases h
theorem sO (G : Good X C S) {r : RE} {e : Expr} (h : okO S r e = true) : PE X e (tO X.K (evO C r)) := by
  unfold okO at h
  split at h
  · rename_i es
    rw [evO_oL _ (by nofun)]
    cases e with
    | List l p => simp only [okE] at h; simp only [ev]; exact eo_lst (sEs es G h)
    | _ => simp [okE] at h
  · rename_i a
    rw [evO_oL _ (by nofun)]
    simp only [okE] at h
    split at h
    · simp only [Bool.and_eq_true, beq_iff_eq] at h
      obtain ⟨⟨⟨rfl, h2⟩, h3⟩, h4⟩ := h
      simp only [ev]
      exact eo_list (sE a G h3).1 (g_glob G h2) (G.blt _ (by decide)) (star_of h4 _ _)
    · cases h
  · rename_i f es
    simp only [okE] at h
    split at h
    · rename_i p1 args p2
      simp only [Bool.and_eq_true, beq_iff_eq] at h
      obtain ⟨⟨rfl, h2⟩, h3⟩ := h
      simp only [evO]
      rcases G.fn f with hn | hF
      · refine ⟨fun pins s σ H Q I ⟨B, ρ, F, d, ρ', R, h1, k⟩ => ?_⟩
        obtain ⟨ds, ρ1, e1, h5⟩ := bnd_inv h1
        rw [hn] at h5
        exact (fail_inv h5).elim
      · have hA := sEs es G h3
        cases es with
        | nil =>
          refine ⟨fun pins s σ H Q I hq => ?_⟩
          cases args with
          | nil =>
            obtain ⟨kk, fa, fd, ps, hk, hr, hm, hkp, hb⟩ := hF
            refine (pe_imp (pe_call0 hk hr (g_glob G h2) hm hkp hb .nil pass0 (g_dbg h2)) fun σ H Q h => ?_).run pins s σ H Q I hq
            obtain ⟨B, ρ, F, ds, ρ1, R, e1, kk⟩ := t_callO h
            obtain ⟨rfl, rfl⟩ := ret_inv (show ret [] ρ = some (ds, ρ1) by simpa only [evs] using e1)
            exact kk [] F H (Same.refl F) .nil R
          | cons _ _ => simp [okEs] at h3
        | cons r rs =>
          cases args with
          | nil => simp [okEs] at h3
          | cons a as =>
            simp only [okEs, Bool.and_eq_true] at h3
            exact eo_call hF (g_glob G h2) (g_dbg h2) hA (star_of h3.1.2 _ _) (es_plain h3.2)
    · cases h
  · rename_i el t it own
    rw [evO_oL _ (by nofun)]
    obtain ⟨elt, tg, iter, scope, pos, rfl, h1, h2, h3, h4, h5, h6, h7⟩ := lc_parts G h
    simp only [ev]
    refine pe_imp (pe_lc G.calm (by rw [G.nn]; exact G.nd) h1 h2 h4 h5 h6 h7) fun σ H Q hq => ?_
    rw [own_map own]
    exact t_lcO h3 hq
  · rename_i el t it c own
    rw [evO_oL _ (by nofun)]
    obtain ⟨elt, tg, iter, cond, scope, pos, rfl, h1, h2, h3, h4, h5, h6, h7⟩ := lcIf_parts G h
    simp only [ev]
    refine pe_imp (pe_lc G.calm (by rw [G.nn]; exact G.nd) h1 h2 h4 h5 h6 h7) fun σ H Q hq => ?_
    rw [own_map own]
    exact t_lcO h3 hq
  · rename_i a b
    rw [evO_oL _ (by nofun)]
    cases e with
    | BinOp x op y p =>
      simp only [okE, Bool.and_eq_true, beq_iff_eq] at h
      obtain ⟨⟨rfl, h2⟩, h3⟩ := h
      simp only [ev]
      exact eo_add (sE a G h2).1 (sE b G h3).1
    | _ => simp [okE] at h
  · cases h
end
/-! ### the text of statements -/
def notTup : Expr → Bool
  | .Tuple .. => false
  | _ => true
mutual
def okS (S : Sc) : RS → Stmt → Bool
  | .set i r, st => match st with
    | .Assign [.Name x _] e _ => decide (S.N[i]? = some x) && locB S x && okE S r e && (!isComp e || isLc r)
    | _ => false
  | .setO i r, st => match st with
    | .Assign [.Name x _] e _ => decide (S.N[i]? = some x) && locB S x && okO S r e && (!isComp e || isLc r)
    | _ => false
  | .unp t r, st => match st with
    | .Assign [.Tuple es k p] e _ => okT S t (.Tuple es k p) && okE S r e && notTup e
    | _ => false
  | .setIx i k r, st => match st with
    | .Assign [.Subscript (.Name x _) y _] e _ => varB S i x && okE S k y && plainE y && okE S r e
    | _ => false
  | .app i r, st => match st with
    | .Expr (.Call (.Attribute (.Name x _) m apos) [e] [] cpos) _ => m == "append" && varB S i x && okE S r e && plainE e && apos.endLine == cpos.line
    | _ => false
  | .expr r, st => match st with
    | .Expr e _ => okE S r e && !isComp e
    | _ => false
  | .ret r, st => match st with
    | .Return (some e) _ => okE S r e
    | _ => false
  | .retO r, st => match st with
    | .Return (some e) _ => okO S r e
    | _ => false
  | .iff c a b, st => match st with
    | .If t x y _ => okE S c t && tst c && okSs S a x && okSs S b y
    | _ => false
  | .for t it b, st => match st with
    | .For tg iter body [] _ => okT S t tg && okI S it tg iter && plainE iter && okSs S b body
    | _ => false
  | .whl c b, st => match st with
    | .While t body [] _ => okE S c t && tst c && okSs S b body
    | _ => false
  | .never, _ => true
def okSs (S : Sc) : RSs → List Stmt → Bool
  | .nil, l => match l with
    | [] => true
    | _ => false
  | .cons r rs, l => match l with
    | st :: sts => okS S r st && okSs S rs sts
    | _ => false
def isLc : RE → Bool
  | .lc .. => true
  | .lcIf .. => true
  | _ => false
end
section
variable {X : Cx} {C : Ctx} {S : Sc}
theorem Good.locN (G : Good X C S) {x : Str} (hl : locB S x = true) : Loc X.env.scope x ∧ (X.fn x = true ∨ X.env.scope.names.lookup x = some .local) := by
  unfold locB at hl
  rw [← G.sc] at hl
  split at hl
  · rename_i q
    exact ⟨.inl q, .inr q⟩
  · rename_i q
    exact ⟨.inr q, .inl (G.stor x hl)⟩
  · cases hl
theorem okE_comp {r : RE} {e : Expr} (h : okE S r e = true) (hl : isLc r = false) : isComp e = false := by
  cases r with
  | lc => cases hl
  | lcIf => cases hl
  | _ => cases e <;> first | rfl | (simp [okE] at h; done)
theorem okO_E {r : RE} {e : Expr} (h : okO S r e = true) : okE S r e = true := by
  unfold okO at h
  split at h <;> first | exact h | cases h
theorem sSet (G : Good X C S) (hk : S.sc.kind = .function) {i : Nat} {r : RE} {x : Str} {py pos : Pos} {e : Expr} (hi : S.N[i]? = some x) (hl : locB S x = true) (h : okE S r e = true) (hc : isLc r = true ∨ isComp e = false) :
    PS X (.Assign [.Name x py] e pos) (tS X.K (bnd (ev C r) fun d => bnd (put i (.dat d)) fun _ => ret .nx)) := by
  obtain ⟨l1, l2⟩ := G.locN hl
  have hN : X.N.Nodup := by rw [G.nn]; exact G.nd
  have hi' : X.N[i]? = some x := by rw [G.nn]; exact hi
  by_cases hcomp : isComp e = false
  · exact ps_imp (ps_set hN hi' l1 (sE r G h).1 (sw_plain hcomp _ _ _) l2) fun _ _ _ => t_set
  · have hlc : isLc r = true := hc.resolve_right hcomp
    cases r with
    | lc el t it own =>
      obtain ⟨elt, tg, iter, scope, pos', rfl, h1, h2, h3, h4, h5, h6, h7⟩ := lc_parts G h
      have hsw := sw_lc (elt := elt) (gs := [⟨tg, iter, [], 0⟩]) (scope := scope) (pos := pos') (py := py) (y := x) (l := pos.line) (env := X.env) (S := S) (by rw [G.sc]; exact hk) G.sc
      cases hb : swB S x py (.ListComp elt [⟨tg, iter, [], 0⟩] scope pos') with
      | true =>
        rw [hb] at hsw
        have hloc : X.env.scope.names.lookup x = some .local := by
          unfold swB at hb
          simp only [Bool.and_eq_true, beq_iff_eq] at hb
          rw [G.sc]
          exact hb.1.1
        simp only [ev]
        exact es_setLc G.calm hN hi' hloc hsw h1 h2 (own_map own) h3 h4 h5 h6 h7
      | false =>
        rw [hb] at hsw
        exact ps_imp (ps_set hN hi' l1 (sE _ G h).1 hsw l2) fun _ _ _ => t_set
    | lcIf el t it c own =>
      obtain ⟨elt, tg, iter, cond, scope, pos', rfl, h1, h2, h3, h4, h5, h6, h7⟩ := lcIf_parts G h
      have hsw := sw_lc (elt := elt) (gs := [⟨tg, iter, [cond], 0⟩]) (scope := scope) (pos := pos') (py := py) (y := x) (l := pos.line) (env := X.env) (S := S) (by rw [G.sc]; exact hk) G.sc
      cases hb : swB S x py (.ListComp elt [⟨tg, iter, [cond], 0⟩] scope pos') with
      | true =>
        rw [hb] at hsw
        have hloc : X.env.scope.names.lookup x = some .local := by
          unfold swB at hb
          simp only [Bool.and_eq_true, beq_iff_eq] at hb
          rw [G.sc]
          exact hb.1.1
        simp only [ev]
        exact es_setLc G.calm hN hi' hloc hsw h1 h2 (own_map own) h3 h4 h5 h6 h7
      | false =>
        rw [hb] at hsw
        exact ps_imp (ps_set hN hi' l1 (sE _ G h).1 hsw l2) fun _ _ _ => t_set
    | _ => cases hlc
theorem sSetO (G : Good X C S) (hk : S.sc.kind = .function) {i : Nat} {r : RE} {x : Str} {py pos : Pos} {e : Expr} (hi : S.N[i]? = some x) (hl : locB S x = true) (h : okO S r e = true) (hc : isLc r = true ∨ isComp e = false) :
    PS X (.Assign [.Name x py] e pos) (tS X.K (bnd (evO C r) fun y => bnd (put i y) fun _ => ret .nx)) := by
  obtain ⟨l1, l2⟩ := G.locN hl
  have hN : X.N.Nodup := by rw [G.nn]; exact G.nd
  have hi' : X.N[i]? = some x := by rw [G.nn]; exact hi
  by_cases hcomp : isComp e = false
  · exact ps_imp (ps_set hN hi' l1 (sO G h) (sw_plain hcomp _ _ _) l2) fun _ _ _ => t_setO
  · have hlc : isLc r = true := hc.resolve_right hcomp
    cases r with
    | lc el t it own =>
      obtain ⟨elt, tg, iter, scope, pos', rfl, h1, h2, h3, h4, h5, h6, h7⟩ := lc_parts G (okO_E h)
      have hsw := sw_lc (elt := elt) (gs := [⟨tg, iter, [], 0⟩]) (scope := scope) (pos := pos') (py := py) (y := x) (l := pos.line) (env := X.env) (S := S) (by rw [G.sc]; exact hk) G.sc
      cases hb : swB S x py (.ListComp elt [⟨tg, iter, [], 0⟩] scope pos') with
      | true =>
        rw [hb] at hsw
        have hloc : X.env.scope.names.lookup x = some .local := by
          unfold swB at hb
          simp only [Bool.and_eq_true, beq_iff_eq] at hb
          rw [G.sc]
          exact hb.1.1
        rw [evO_oL _ (by nofun)]
        simp only [ev]
        exact es_setLcO G.calm hN hi' hloc hsw h1 h2 (own_map own) h3 h4 h5 h6 h7
      | false =>
        rw [hb] at hsw
        exact ps_imp (ps_set hN hi' l1 (sO G h) hsw l2) fun _ _ _ => t_setO
    | lcIf el t it c own =>
      obtain ⟨elt, tg, iter, cond, scope, pos', rfl, h1, h2, h3, h4, h5, h6, h7⟩ := lcIf_parts G (okO_E h)
      have hsw := sw_lc (elt := elt) (gs := [⟨tg, iter, [cond], 0⟩]) (scope := scope) (pos := pos') (py := py) (y := x) (l := pos.line) (env := X.env) (S := S) (by rw [G.sc]; exact hk) G.sc
      cases hb : swB S x py (.ListComp elt [⟨tg, iter, [cond], 0⟩] scope pos') with
      | true =>
        rw [hb] at hsw
        have hloc : X.env.scope.names.lookup x = some .local := by
          unfold swB at hb
          simp only [Bool.and_eq_true, beq_iff_eq] at hb
          rw [G.sc]
          exact hb.1.1
        rw [evO_oL _ (by nofun)]
        simp only [ev]
        exact es_setLcO G.calm hN hi' hloc hsw h1 h2 (own_map own) h3 h4 h5 h6 h7
      | false =>
        rw [hb] at hsw
        exact ps_imp (ps_set hN hi' l1 (sO G h) hsw l2) fun _ _ _ => t_setO
    | _ => cases hlc
theorem or_of {a b : Bool} (h : (!a || b) = true) : b = true ∨ a = false := by
  cases a <;> simp_all
mutual
theorem sS (G : Good X C S) (hk : S.sc.kind = .function) (hp : PassesOwn (model X.prog X.w) X.A X.env X.xe) : ∀ (r : RS) (st : Stmt), okS S r st = true → PS X st (tS X.K (ex C r))
  | .set i r, st, h => by
    simp only [okS] at h
    split at h
    · simp only [Bool.and_eq_true, decide_eq_true_eq] at h
      obtain ⟨⟨⟨h1, h2⟩, h3⟩, h4⟩ := h
      simp only [ex]
      exact sSet G hk h1 h2 h3 (or_of h4)
    · cases h
  | .setO i r, st, h => by
    simp only [okS] at h
    split at h
    · simp only [Bool.and_eq_true, decide_eq_true_eq] at h
      obtain ⟨⟨⟨h1, h2⟩, h3⟩, h4⟩ := h
      simp only [ex]
      exact sSetO G hk h1 h2 h3 (or_of h4)
    · cases h
  | .unp t r, st, h => by
    simp only [okS] at h
    split at h
    · simp only [Bool.and_eq_true] at h
      obtain ⟨⟨h1, h2⟩, h3⟩ := h
      simp only [ex]
      refine ps_imp (ps_asg (sE r G h2).1 (sT G t _ h1) (sws_tup _ _) ?_ rfl) fun _ _ _ => t_asg
      rename_i e _ 
      cases e <;> first | rfl | cases h3
    · cases h
  | .setIx i k r, st, h => by
    simp only [okS] at h
    split at h
    · simp only [Bool.and_eq_true] at h
      obtain ⟨⟨⟨h1, h2⟩, h3⟩, h4⟩ := h
      simp only [ex]
      refine es_setIx (s_var G h1) (sE k G h2).1 (sE r G h4).1 (fun v => ?_) (sws_sub _ _) rfl rfl
      rename_i y _ _ _
      cases y <;> first | rfl | cases h3
    · cases h
  | .app i r, st, h => by
    simp only [okS] at h
    split at h
    · simp only [Bool.and_eq_true, beq_iff_eq] at h
      obtain ⟨⟨⟨⟨rfl, h2⟩, h3⟩, h4⟩, h5⟩ := h
      simp only [ex]
      exact es_app (s_var G h2) (sE r G h3).1 rfl (by rw [h5]; exact beq_self_eq_true _) (star_of h4 _ _)
    · cases h
  | .expr r, st, h => by
    simp only [okS] at h
    split at h
    · simp only [Bool.and_eq_true, Bool.not_eq_true'] at h
      simp only [ex]
      exact es_expr (sE r G h.1).1 (sw_plain h.2 _ _ _)
    · cases h
  | .ret r, st, h => by
    simp only [okS] at h
    split at h
    · simp only [ex]
      exact es_ret (sE r G h).1
    · cases h
  | .retO r, st, h => by
    simp only [okS] at h
    split at h
    · simp only [ex]
      exact es_retO (sO G h)
    · cases h
  | .iff c a b, st, h => by
    simp only [okS] at h
    split at h
    · simp only [Bool.and_eq_true] at h
      obtain ⟨⟨⟨h1, h2⟩, h3⟩, h4⟩ := h
      simp only [ex]
      exact es_if ((sE c G h1).2 h2) (sSs G hk hp a _ h3) (sSs G hk hp b _ h4)
    · cases h
  | .for t it b, st, h => by
    simp only [okS] at h
    split at h
    · simp only [Bool.and_eq_true] at h
      obtain ⟨⟨⟨h1, h2⟩, h3⟩, h4⟩ := h
      simp only [ex]
      exact es_for hp G.calm (sI it G h2) (sT G t _ h1) (sSs G hk hp b _ h4) (folded_of h3 _)
    · cases h
  | .whl c b, st, h => by
    simp only [okS] at h
    split at h
    · simp only [Bool.and_eq_true] at h
      obtain ⟨⟨h1, h2⟩, h3⟩ := h
      simp only [ex]
      exact es_while hp ((sE c G h1).2 h2) (sSs G hk hp b _ h3)
    · cases h
  | .never, st, h => by
    simp only [ex]
    exact es_never
theorem sSs (G : Good X C S) (hk : S.sc.kind = .function) (hp : PassesOwn (model X.prog X.w) X.A X.env X.xe) : ∀ (rs : RSs) (sts : List Stmt), okSs S rs sts = true → PSs X sts (tS X.K (exs C rs))
  | .nil, sts, h => by
    cases sts with
    | nil => simp only [exs]; exact es_nil
    | cons _ _ => simp [okSs] at h
  | .cons r rs, sts, h => by
    cases sts with
    | nil => simp [okSs] at h
    | cons st sts =>
      simp only [okSs, Bool.and_eq_true] at h
      simp only [exs]
      exact es_cons (sS G hk hp r st h.1) (sSs G hk hp rs sts h.2)
end
end
end Pb
end

section
set_option Elab.async false
set_option linter.all false
set_option maxRecDepth 100000
set_option maxHeartbeats 4000000
/-! # Every def keeps its promise -/
namespace Pb
open PySem PySem.Spec L2
theorem runFn_inv {C : Ctx} {f : Fn} {as : List Vl} {x : Vl} {s : Slt} (h : runFn C f as = some (x, s)) : as.length = f.ps ∧ ∃ o ρ, exs C f.body (startR f as) = some (o, ρ) ∧ backIo f.io ρ = some s ∧ ((o = .rt x) ∨ (o = .nx ∧ x = .dat .none)) := by
  unfold runFn at h
  split at h
  · rename_i hl
    refine ⟨hl, ?_⟩
    split at h
    · rename_i y ρ e
      obtain ⟨s', e1, e2⟩ := Option.map_eq_some_iff.mp h
      cases e2
      exact ⟨_, ρ, e, e1, .inl rfl⟩
    · rename_i ρ e
      obtain ⟨s', e1, e2⟩ := Option.map_eq_some_iff.mp h
      cases e2
      exact ⟨_, ρ, e, e1, .inr ⟨rfl, rfl⟩⟩
    · cases h
  · cases h
section
variable {K : PySem.W.Frag} {F H : Hp}
theorem start_at {N : List Str} {vs : List V} {i : Nat} {v : V} (h : vs[i]? = some v) : (start N vs)[i]? = some (some v) := by
  unfold L2.start
  have hi : i < vs.length := (List.getElem?_eq_some_iff.mp h).1
  rw [List.getElem?_append_left (by simpa using hi), List.getElem?_map, h]
  rfl
theorem startR_at {f : Fn} {as : List Vl} {i : Nat} {x : Vl} (h : (startR f as)[i]? = some (some x)) : as[i]? = some x := by
  unfold startR at h
  by_cases hi : i < as.length
  · rw [List.getElem?_append_left (by simpa using hi), List.getElem?_map] at h
    cases e : as[i]? with
    | none => rw [e] at h; cases h
    | some y => rw [e] at h; cases h; rfl
  · rw [List.getElem?_append_right (by simpa using hi), List.getElem?_replicate] at h
    split at h <;> cases h
theorem start_len {N : List Str} {vs : List V} {f : Fn} {as : List Vl} (h1 : vs.length = as.length) (h2 : N.length = f.sl) : (startR f as).length = (start N vs).length := by
  unfold startR L2.start
  simp only [List.length_append, List.length_map, List.length_replicate]
  omega
theorem rp_pure {N : List Str} {vs : List V} {f : Fn} {ds : List PyData} (hN : N.length = f.sl) (hs : Same F H) (hd : Dats K F vs ds) : Rp K ⟨H, F, [], []⟩ (startR f (ds.map .dat)) (start N vs) F H := by
  have dat : ∀ {i : Nat} {x : Vl}, (startR f (ds.map .dat))[i]? = some (some x) → ∃ d, x = .dat d ∧ ds[i]? = some d := fun {i x} e => by
    have q := startR_at e
    rw [List.getElem?_map] at q
    obtain ⟨d, e1, e2⟩ := Option.map_eq_some_iff.mp q
    exact ⟨d, e2.symm, e1⟩
  have nom : ∀ {i a}, ¬ Mine (startR f (ds.map .dat)) (start N vs) i a := fun {i a} m => by
    obtain ⟨⟨x, h1, h2⟩, _⟩ := m
    obtain ⟨d, rfl, _⟩ := dat h1
    cases h2
  refine ⟨start_len (by rw [List.length_map, hd.len]) hN, hs, Same.refl F, fun a o e => .inl ⟨o, e⟩, fun a o e _ => e, fun a o e => ⟨o, e⟩, fun i x e => ?_, fun i es a e _ => ?_, fun i es a e _ => ?_, fun i j a m => absurd m nom, fun p hp => absurd hp (by simp)⟩
  · obtain ⟨d, rfl, q⟩ := dat e
    obtain ⟨v, q1, q2⟩ := hd.get q
    exact ⟨v, start_at q1, q2⟩
  · obtain ⟨d, q, _⟩ := dat e
    cases q
  · obtain ⟨d, q, _⟩ := dat e
    cases q
theorem rp_io {N : List Str} {a : Addr} {ws : List V} {f : Fn} {own ds : List PyData} (hN : N.length = f.sl) (hs : Same F H) (hL : LstAt K F H (.ref a) own) (hd : Dats K F ws ds) : Rp K ⟨H, F, [a], []⟩ (startR f (.lnt own :: ds.map .dat)) (start N (.ref a :: ws)) F H := by
  have dat : ∀ {i : Nat} {x : Vl}, (startR f (.lnt own :: ds.map .dat))[i]? = some (some x) → (i = 0 ∧ x = .lnt own) ∨ ∃ j d, i = j + 1 ∧ x = .dat d ∧ ds[j]? = some d := fun {i x} e => by
    have q := startR_at e
    cases i with
    | zero => cases q; exact .inl ⟨rfl, rfl⟩
    | succ j =>
      rw [List.getElem?_cons_succ, List.getElem?_map] at q
      obtain ⟨d, e1, e2⟩ := Option.map_eq_some_iff.mp q
      exact .inr ⟨j, d, rfl, e2.symm, e1⟩
  have mz : ∀ {i b}, Mine (startR f (.lnt own :: ds.map .dat)) (start N (.ref a :: ws)) i b → i = 0 := fun {i b} m => by
    obtain ⟨⟨x, h1, h2⟩, _⟩ := m
    rcases dat h1 with ⟨h, _⟩ | ⟨_, d, _, rfl, _⟩
    · exact h
    · cases h2
  have s0 : (start N (.ref a :: ws))[0]? = some (some (.ref a)) := start_at rfl
  refine ⟨start_len (by rw [List.length_cons, List.length_cons, List.length_map, hd.len]) hN, hs, Same.refl F, fun a o e => .inl ⟨o, e⟩, fun a o e _ => e, fun a o e => ⟨o, e⟩, fun i x e => ?_, fun i es b e e2 => ?_, fun i es b e e2 => ?_, fun i j b m m2 => (mz m).trans (mz m2).symm, fun p hp => absurd hp (by simp)⟩
  · rcases dat e with ⟨rfl, rfl⟩ | ⟨j, d, rfl, rfl, q⟩
    · exact ⟨.ref a, s0, hL⟩
    · obtain ⟨v, q1, q2⟩ := hd.get q
      exact ⟨v, start_at (by simpa using q1), q2⟩
  · rcases dat e with ⟨_, q⟩ | ⟨_, _, _, q, _⟩ <;> cases q
  · rcases dat e with ⟨rfl, _⟩ | ⟨_, _, _, q, _⟩
    · rw [s0] at e2
      cases e2
      rfl
    · cases q
end
/-- the def f of the text, and its term -/
def DefAt (K : PySem.W.Frag) (mg : Str → Option Value) (f : Str) (d : Fn) : Prop := ∃ (st : Stmt) (fa : Addr) (fd : FuncData) (N ps : List Str),
  Fun K f f st fa fd ∧ mg f = some (.ref fa) ∧ FnScope N ps (defScope st) ∧ Binds K fd ps [] ∧ ps.length = d.ps ∧ N.length = d.sl ∧ okSs ⟨defScope st, N, fun _ => true⟩ d.body (defBody st) = true
structure World0 (P : Prg) (K : PySem.W.Frag) (mg : Str → Option Value) : Prop where
  defs : ∀ f d, P.fns f = some d → DefAt K mg f d
  gl : ∀ x d, P.gls x = some d → ∃ u v, mg x = some u ∧ RelV v u ∧ ∀ F, Dat K F v d
  blt : ∀ x ∈ blts, mg x = none
theorem Prg.at_gl (P : Prg) : ∀ k, (P.at k).gl = P.gls
  | 0 => rfl
  | _ + 1 => rfl
section
variable {prog : Program} {w : World} {K : PySem.W.Frag} {mg : Str → Option Value} {base : Heap} {P : Prg}
/-- what is known of all defs at depth k -/
def AllAt (prog : Program) (w : World) (K : PySem.W.Frag) (mg : Str → Option Value) (base : Heap) (P : Prg) (k : Nat) : Prop := ∀ f : Str, (∀ as, (P.at k).fn f as = none) ∨
    ∃ fa fd ps, FnOk prog w K mg base CX0 k fa fd ps (spF K ((P.at k).fn f)) ∧ mg f = some (.ref fa) ∧ PySem.W.keepIn K (.ref fa) = true ∧ Binds K fd ps []
theorem fn_step (W : World0 P K mg) {k : Nat} (IH : AllAt prog w K mg base P k) {f : Str} {d : Fn} {st : Stmt} {fa : Addr} {fd : FuncData} {N ps : List Str} (F : Fun K f f st fa fd) (hsc : FnScope N ps (defScope st)) (hps : ps.length = d.ps) (hN : N.length = d.sl)
    (hok : okSs ⟨defScope st, N, fun _ => true⟩ d.body (defBody st) = true) : FnOk prog w K mg base CX0 (k + 1) fa fd ps (spF K fun as => runFn (P.at k) d as) := by
  refine F.ok hsc (fun vs H Q E h => ?_) fun cdv A outer s H vs Q E hr h => ?_
  · rcases h with ⟨F', ds, x, s', _, hd, hc, _⟩ | ⟨F', a, ws, own, ds, x, own', rfl, _, _, hd, hc, _⟩
    · obtain ⟨hl, _⟩ := runFn_inv hc
      rw [List.length_map] at hl
      rw [hd.len, hl, hps]
    · obtain ⟨hl, _⟩ := runFn_inv hc
      rw [List.length_cons, List.length_map] at hl
      rw [List.length_cons, hd.len, hl, hps]
  · have G : Good ((cxOf CX0 prog w K mg base N f (defScope st) fa cdv A outer s H E).nox) (P.at k) ⟨defScope st, N, fun _ => true⟩ := by
      refine ⟨rfl, rfl, hsc.nd, rfl, ?_, fun _ _ => rfl, ?_, W.blt, fun g => ?_⟩
      · have := hr.un
        show (A.deeper _).units + 70 < cLine
        omega
      · rw [P.at_gl]
        exact W.gl
      · rcases IH g with q | ⟨ga, gd, gs, q1, q2, q3, q4⟩
        · exact .inl q
        · exact .inr ⟨k, ga, gd, gs, q1, hr, q2, q3, q4⟩
    refine ⟨_, sSs G hsc.kind PassesOwn.never d.body _ hok, ?_⟩
    rcases h with ⟨F', ds, x, s', hs, hd, hc, kk⟩ | ⟨F', a, ws, own, ds, x, own', rfl, hs, hL, hd, hc, kk⟩
    · obtain ⟨_, o, ρ', e1, e2, e3⟩ := runFn_inv hc
      refine ⟨⟨H, F', [], []⟩, _, F', o, ρ', rp_pure hN hs hd, e1, ?_⟩
      rcases e3 with rfl | ⟨rfl, rfl⟩
      · exact fun v σ' F1 H1 _ r q => kk v ρ' σ' F1 H1 r q
      · exact fun σ' F1 H1 _ r => kk .non ρ' σ' F1 H1 r .non
    · obtain ⟨_, o, ρ', e1, e2, e3⟩ := runFn_inv hc
      have hρ : ∃ rest, ρ' = some (.lnt own') :: rest := by
        unfold backIo at e2
        split at e2
        · cases e2; exact ⟨_, rfl⟩
        · cases e2
        · cases e2
      obtain ⟨rest, rfl⟩ := hρ
      have hLst : ∀ {σ' : St} {F1 H1 : Hp}, Rp K ⟨H, F', [a], []⟩ (some (.lnt own') :: rest) σ' F1 H1 → LstAt K F1 H1 (.ref a) own' := fun {σ' F1 H1} r => by
        obtain ⟨v, q1, q2⟩ := r.slot 0 _ rfl
        obtain ⟨b, xs, rfl, w⟩ := q2
        have := r.lent 0 own' b rfl q1
        cases this
        exact ⟨a, xs, rfl, w⟩
      refine ⟨⟨H, F', [a], []⟩, _, F', o, _, rp_io hN hs hL hd, e1, ?_⟩
      rcases e3 with rfl | ⟨rfl, rfl⟩
      · exact fun v σ' F1 H1 _ r q => kk v _ σ' F1 H1 r (hLst r) q
      · exact fun σ' F1 H1 _ r => kk .non _ σ' F1 H1 r (hLst r) .non
theorem fn_all (W : World0 P K mg) : ∀ k : Nat, AllAt prog w K mg base P k
  | 0, f => .inl fun _ => rfl
  | k + 1, f => by
    cases hf : P.fns f with
    | none =>
      refine .inl fun as => ?_
      show (P.fns f).bind _ = none
      rw [hf]
      rfl
    | some d =>
      obtain ⟨st, fa, fd, N, ps, F, hm, hsc, hb, hps, hN, hok⟩ := W.defs f d hf
      have efn : (P.at (k + 1)).fn f = fun as => runFn (P.at k) d as := by
        funext as
        show (P.fns f).bind _ = _
        rw [hf]
        rfl
      refine .inr ⟨fa, fd, ps, ?_, hm, F.kp, hb⟩
      rw [efn]
      exact fn_step W (fn_all W k) F hsc hps hN hok
/-- the law's own promise -/
def spLaw (K : PySem.W.Frag) : Sp := fun vs H Q _ => ∃ (a : Addr) (ns : List Int), vs = [.ref a] ∧ SqL K H a (ns.map V.int) ∧ ns.length ≤ 63 ∧ (∀ z ∈ ns, Builtin.Int.intBits z ≤ 1048576) ∧ ∀ H', Q (.bl true) H'
theorem dats_ints {K : PySem.W.Frag} {F : Hp} : ∀ ns : List Int, Dats K F (ns.map V.int) (ns.map PyData.int)
  | [] => .nil
  | n :: ns => .cons (.int n) (dats_ints ns)
/-- what is to be shown of the small program -/
def LawHolds (P : Prg) (k : Nat) : Prop := ∀ ns : List Int, ns.length ≤ 63 → (∀ z ∈ ns, Builtin.Int.intBits z ≤ 1048576) → ∃ s, (P.at k).fn "law" [.dat (.list (ns.map .int))] = some (.dat (.bool true), s)
theorem law_ok (W : World0 P K mg) {k : Nat} (hl : LawHolds P (k + 1)) {d : Fn} (hd : P.fns "law" = some d) {st : Stmt} {fa : Addr} {fd : FuncData} {N ps : List Str} (F : Fun K "law" "law" st fa fd) (hsc : FnScope N ps (defScope st)) (hp1 : ps.length = 1) (hps : ps.length = d.ps) (hN : N.length = d.sl)
    (hok : okSs ⟨defScope st, N, fun _ => true⟩ d.body (defBody st) = true) : FnOk prog w K mg base CX0 (k + 1) fa fd ps (spLaw K) := by
  refine (fn_step W (fn_all W k) F hsc hps hN hok).imp fun vs H Q E ⟨a, ns, ev, hS, hlen, hb, q⟩ => ?_
  subst ev
  obtain ⟨s, hs⟩ := hl ns hlen hb
  have hs' : runFn (P.at k) d ([PyData.list (ns.map .int)].map .dat) = some (.dat (.bool true), s) := by
    have : (P.at (k + 1)).fn "law" = fun as => runFn (P.at k) d as := by
      funext as
      show (P.fns "law").bind _ = _
      rw [hd]
      rfl
    rw [this] at hs
    exact hs
  refine .inl ⟨H, _, _, _, Same.refl H, .cons (.lst hS ?_ (dats_ints ns)) .nil, hs', fun v ρ' σ' F' H' _ hv => ?_⟩
  · rw [List.length_map]
    exact Nat.le_trans hlen (by decide)
  · cases hv
    exact q H'
def AllDefs (K : PySem.W.Frag) (mg : Str → Option Value) : List (Str × Fn) → Prop
  | [] => True
  | p :: r => DefAt K mg p.1 p.2 ∧ AllDefs K mg r
theorem AllDefs.get : ∀ {l : List (Str × Fn)} {f : Str} {d : Fn}, AllDefs K mg l → l.lookup f = some d → DefAt K mg f d
  | [], _, _, _, h => by cases h
  | (g, e) :: r, f, d, ⟨h1, h2⟩, h => by
    rw [List.lookup_cons] at h
    split at h
    · rename_i q
      cases h
      have := eq_of_beq q
      subst this
      exact h1
    · exact AllDefs.get h2 h
def AllGls (K : PySem.W.Frag) (mg : Str → Option Value) : List (Str × PyData) → Prop
  | [] => True
  | p :: r => (∃ u v, mg p.1 = some u ∧ RelV v u ∧ ∀ F, Dat K F v p.2) ∧ AllGls K mg r
theorem AllGls.get : ∀ {l : List (Str × PyData)} {f : Str} {d : PyData}, AllGls K mg l → l.lookup f = some d → ∃ u v, mg f = some u ∧ RelV v u ∧ ∀ F, Dat K F v d
  | [], _, _, _, h => by cases h
  | (g, e) :: r, f, d, ⟨h1, h2⟩, h => by
    rw [List.lookup_cons] at h
    split at h
    · rename_i q
      cases h
      have := eq_of_beq q
      subst this
      exact h1
    · exact AllGls.get h2 h
theorem gl_int {u : Value} {i : Int} {t : Tok} (h : u = .int i t) : ∃ v, RelV v u ∧ ∀ F, Dat K F v (.int i) := ⟨.int i, ⟨t, h⟩, fun F => .int i⟩
theorem gl_str {u : Value} {x : Str} {t : Tok} (hx : PyData.strOk x = true) (h : u = .str x t) : ∃ v, RelV v u ∧ ∀ F, Dat K F v (.str x) := ⟨.str x, ⟨t, h⟩, fun F => .str x hx⟩
def AllNone (mg : Str → Option Value) : List Str → Prop
  | [] => True
  | x :: r => mg x = none ∧ AllNone mg r
theorem AllNone.get : ∀ {l : List Str}, AllNone mg l → ∀ x ∈ l, mg x = none
  | x :: r, ⟨h1, h2⟩, y, hy => by
    rcases List.mem_cons.mp hy with rfl | hy
    · exact h1
    · exact AllNone.get h2 y hy
/-- one def, from what the head has found -/
theorem def_mk {f : Str} {st : Stmt} {fa : Addr} {d : Fn} {N ps : List Str} {oc : Value} {od an : Option Addr} {osl : Array (Option Value)} {kV doc pm cdv ct : Value} (hm : mg f = some (.ref fa))
    (l : K.lookup fa = some ⟨oc, od, .func (PySem.W.fnOf f f (defArgs st) (defBody st) (defScope st) .none kV doc pm an cdv ct), osl⟩) (c : PySem.W.codeIn K cdv f = true) (k : PySem.W.keepIn K (.ref fa) = true)
    (hsc : FnScope N ps (defScope st)) (hps : ps.length = d.ps) (hN : N.length = d.sl) (hok : okSs ⟨defScope st, N, fun _ => true⟩ d.body (defBody st) = true)
    (hb : ∀ (kV doc pm : Value) (an : Option Addr) (cdv ct : Value) (us : List Value), us.length = ps.length → bindArgs (PySem.W.fnOf f f (defArgs st) (defBody st) (defScope st) .none kV doc pm an cdv ct) ⟨us, []⟩ = pure (ps.zip us)) : DefAt K mg f d :=
  have F := fun_mk (st := st) l c k
  ⟨st, fa, _, N, ps, F, hm, hsc, F.binds hb, hps, hN, hok⟩
end
end Pb
end

section
set_option maxRecDepth 100000
namespace Pb
open PySem PySem.Spec L2
section
variable {prog : Program} {w : World} {K : PySem.W.Frag} {mg : Str → Option Value} {h : Heap} {P : Prg}
theorem def_mk2 {f : Str} {st : Stmt} {fa : Addr} {d : Fn} {N ps : List Str} {oc : Value} {od an : Option Addr} {osl : Array (Option Value)} {kV doc pm cdv ct : Value} (X : K.In h) (G : h.Ns mainGlobals mg) (a : PySem.W.nsIn K mainGlobals f = some (some (.ref fa)))
    (l : K.lookup fa = some ⟨oc, od, .func (PySem.W.fnOf f f (defArgs st) (defBody st) (defScope st) .none kV doc pm an cdv ct), osl⟩) (c : PySem.W.codeIn K cdv f = true) (k : PySem.W.keepIn K (.ref fa) = true)
    (hsc : FnScope N ps (defScope st)) (hps : ps.length = d.ps) (hN : N.length = d.sl) (hok : okSs ⟨defScope st, N, fun _ => true⟩ d.body (defBody st) = true)
    (hb : ∀ (kV doc pm : Value) (an : Option Addr) (cdv ct : Value) (us : List Value), us.length = ps.length → bindArgs (PySem.W.fnOf f f (defArgs st) (defBody st) (defScope st) .none kV doc pm an cdv ct) ⟨us, []⟩ = pure (ps.zip us)) : DefAt K mg f d :=
  def_mk (PySem.W.mg_of X G a) l c k hsc hps hN hok hb
theorem gl_mkI {x : Str} {i : Int} {t : Tok} (X : K.In h) (G : h.Ns mainGlobals mg) (a : PySem.W.nsIn K mainGlobals x = some (some (.int i t))) : ∃ u v, mg x = some u ∧ RelV v u ∧ ∀ F, Dat K F v (.int i) :=
  ⟨_, .int i, PySem.W.mg_of X G a, ⟨t, rfl⟩, fun _ => .int i⟩
theorem gl_mkS {x y : Str} {t : Tok} (hy : PyData.strOk y = true) (X : K.In h) (G : h.Ns mainGlobals mg) (a : PySem.W.nsIn K mainGlobals x = some (some (.str y t))) : ∃ u v, mg x = some u ∧ RelV v u ∧ ∀ F, Dat K F v (.str y) :=
  ⟨_, .str y, PySem.W.mg_of X G a, ⟨t, rfl⟩, fun _ => .str y hy⟩
def NoneIn (K : PySem.W.Frag) : List Str → Prop
  | [] => True
  | x :: r => PySem.W.nsIn K mainGlobals x = some none ∧ NoneIn K r
theorem NoneIn.all (X : K.In h) (G : h.Ns mainGlobals mg) : ∀ {l : List Str}, NoneIn K l → AllNone mg l
  | [], _ => trivial
  | _ :: _, ⟨h1, h2⟩ => ⟨PySem.W.mg_none_of X G h1, NoneIn.all X G h2⟩
/-- the end of a law's proof -/
theorem law_end {k : Nat} {fa f4 : Addr} {ft : List (Str × Fn)} {gt : List (Str × PyData)} {st : Stmt} {d : Fn} {N : List Str} {oc : Value} {od an : Option Addr} {osl : Array (Option Value)} {kV doc pm cdv ct : Value}
    (X : K.In h) (G : h.Ns mainGlobals mg) (hfa : mg "law" = some (.ref fa)) (hP : P = ⟨fun f => ft.lookup f, fun x => gt.lookup x⟩) (hL : LawHolds P (k + 1)) (hd : P.fns "law" = some d)
    (hsc : FnScope N ["script"] (defScope st)) (hps : 1 = d.ps) (hN : N.length = d.sl) (hok : okSs ⟨defScope st, N, fun _ => true⟩ d.body (defBody st) = true)
    (hb : ∀ (kV doc pm : Value) (an : Option Addr) (cdv ct : Value) (us : List Value), us.length = 1 → bindArgs (PySem.W.fnOf "law" "law" (defArgs st) (defBody st) (defScope st) .none kV doc pm an cdv ct) ⟨us, []⟩ = pure ((["script"] : List Str).zip us))
    (a4 : PySem.W.nsIn K mainGlobals "law" = some (some (.ref f4)))
    (l4 : K.lookup f4 = some ⟨oc, od, .func (PySem.W.fnOf "law" "law" (defArgs st) (defBody st) (defScope st) .none kV doc pm an cdv ct), osl⟩) (c4 : PySem.W.codeIn K cdv "law" = true) (k4 : PySem.W.keepIn K (.ref f4) = true)
    (hn : NoneIn K blts) (hg : AllGls K mg gt) (hf : AllDefs K mg ft) :
    ∃ fd : FuncData, (∀ (s : Shared) (v : Value), BindsTo s fd ⟨[v], []⟩ [("script", v)]) ∧ ∀ base : Heap, K.In base → base.Ns mainGlobals mg → FnOk prog w K mg base CX0 (k + 1) fa fd ["script"] (spLaw K) := by
  have e := hfa.symm.trans (PySem.W.mg_of X G a4)
  cases e
  have F4 := fun_mk (st := st) l4 c4 k4
  refine ⟨_, fun s v => .of_eq (hb kV doc pm an cdv ct [v] rfl), fun base _ _ => ?_⟩
  have W : World0 P K mg := by
    subst hP
    exact ⟨fun f d hf' => hf.get hf', fun x d hx => hg.get hx, (NoneIn.all X G hn).get⟩
  exact law_ok W hL hd F4 hsc rfl hps hN hok
theorem walk {l : PySem.W.OpenLaw} {q : Program} {loose : List Str} {XP : (Str → Option Value) → Heap → Prop} {YP : World → Heap → Prop} {d : DefRec} {K : Params → PySem.W.Frag} (k : Nat) (hk : Room k callerA) (hn : l.most = some 63) (hdf : d.params.defaults = [])
    (hY : ∀ (w : World) (h : Heap), YP w h → (K w.params).In h)
    (F : ∀ (w : World) (mg : Str → Option Value) (fa : Addr) (h : Heap), (K w.params).In h → h.Ns mainGlobals mg → mg d.name = some (.ref fa) →
      ∃ fd : FuncData, (∀ (s : Shared) (u : Value), BindsTo s fd ⟨[u], []⟩ [("script", u)]) ∧ ∀ base : Heap, (K w.params).In base → base.Ns mainGlobals mg → FnOk l.prog w (K w.params) mg base CX0 k fa fd ["script"] (spLaw (K w.params))) :
    PySem.W.WalkO q loose XP YP l.row.toRowW d [] (fun f vs => PySem.call f vs) :=
  L2.walk_ofB (n := 63) (k := k) (x := "script") (CX := fun _ => CX0) (sp := fun w => spLaw (K w.params)) hn (by decide) hdf hk hY F (fun _ _ a ns hl hb _ hS => ⟨a, ns, rfl, hS, hl, hb, fun _ => rfl⟩) fun _ _ _ _ _ z => z
end
end Pb
end

section
set_option Elab.async false
set_option linter.all false
set_option maxRecDepth 100000
/-! # Running the small language by hand -/
namespace Pb
open PySem
section
variable {α β : Type}
def oQ (Q : α → Rho → Prop) : Option (α × Rho) → Prop
  | none => False
  | some p => Q p.1 p.2
@[irreducible] def wp (m : M α) (Q : α → Rho → Prop) (ρ : Rho) : Prop := oQ Q (m ρ)
def cQ (Q : Vl → Slt → Prop) : Option (Vl × Slt) → Prop
  | none => False
  | some p => Q p.1 p.2
@[irreducible] def fnR (C : Ctx) (f : Str) (as : List Vl) (Q : Vl → Slt → Prop) : Prop := cQ Q (C.fn f as)
theorem wp_ex {m : M α} {Q : α → Rho → Prop} {ρ : Rho} : wp m Q ρ ↔ ∃ a ρ', m ρ = some (a, ρ') ∧ Q a ρ' := by
  unfold wp
  cases h : m ρ with
  | none => exact ⟨False.elim, fun ⟨_, _, e, _⟩ => by cases e⟩
  | some p => exact ⟨fun q => ⟨p.1, p.2, rfl, q⟩, fun ⟨_, _, e, q⟩ => by cases e; exact q⟩
theorem fnR_ex {C : Ctx} {f : Str} {as : List Vl} {Q : Vl → Slt → Prop} : fnR C f as Q ↔ ∃ x s, C.fn f as = some (x, s) ∧ Q x s := by
  unfold fnR
  cases h : C.fn f as with
  | none => exact ⟨False.elim, fun ⟨_, _, e, _⟩ => by cases e⟩
  | some p => exact ⟨fun q => ⟨p.1, p.2, rfl, q⟩, fun ⟨_, _, e, q⟩ => by cases e; exact q⟩
theorem wp.mono {m : M α} {Q R : α → Rho → Prop} {ρ : Rho} (h : wp m Q ρ) (i : ∀ a ρ', Q a ρ' → R a ρ') : wp m R ρ := by
  obtain ⟨a, ρ', e, q⟩ := wp_ex.mp h
  exact wp_ex.mpr ⟨a, ρ', e, i _ _ q⟩
theorem fnR.mono {C : Ctx} {f : Str} {as : List Vl} {Q R : Vl → Slt → Prop} (h : fnR C f as Q) (i : ∀ a s, Q a s → R a s) : fnR C f as R := by
  obtain ⟨a, s, e, q⟩ := fnR_ex.mp h
  exact fnR_ex.mpr ⟨a, s, e, i _ _ q⟩
@[simp] theorem wp_bnd {m : M α} {k : α → M β} {Q : β → Rho → Prop} {ρ : Rho} : wp (bnd m k) Q ρ ↔ wp m (fun a => wp (k a) Q) ρ := by
  unfold wp bnd
  cases h : m ρ <;> with_unfolding_all exact Iff.rfl
@[simp] theorem wp_ret {a : α} {Q : α → Rho → Prop} {ρ : Rho} : wp (ret a) Q ρ ↔ Q a ρ := by unfold wp; with_unfolding_all exact Iff.rfl
@[simp] theorem wp_fail {Q : α → Rho → Prop} {ρ : Rho} : wp (fail : M α) Q ρ ↔ False := by unfold wp; with_unfolding_all exact Iff.rfl
@[simp] theorem wp_some {a : α} {Q : α → Rho → Prop} {ρ : Rho} : wp (ofO (some a)) Q ρ ↔ Q a ρ := by unfold wp; with_unfolding_all exact Iff.rfl
@[simp] theorem wp_none {Q : α → Rho → Prop} {ρ : Rho} : wp (ofO (none : Option α)) Q ρ ↔ False := by unfold wp; with_unfolding_all exact Iff.rfl
@[simp] theorem wp_ite {c : Prop} [Decidable c] {m n : M α} {Q : α → Rho → Prop} {ρ : Rho} : wp (if c then m else n) Q ρ ↔ if c then wp m Q ρ else wp n Q ρ := by split <;> rfl
/-- what a slot's reading comes to -/
def rdQ (Q : PyData → Rho → Prop) (i : Nat) (ρ : Rho) : Option Slt → Prop
  | some (some (.dat d)) => Q d ρ
  | some (some (.lst ds)) => Q (.list ds) (ρ.set i (some (.dat (.list ds))))
  | _ => False
@[simp] theorem wp_rd {Q : PyData → Rho → Prop} {i : Nat} {ρ : Rho} : wp (rd i) Q ρ ↔ rdQ Q i ρ ρ[i]? := by
  unfold wp rd
  rcases h : ρ[i]? with _ | _ | _ | _ | _ <;> with_unfolding_all exact Iff.rfl
def pkQ (Q : PyData → Rho → Prop) (ρ : Rho) : Option Slt → Prop
  | some (some (.dat d)) => Q d ρ
  | some (some (.lst ds)) => Q (.list ds) ρ
  | some (some (.lnt ds)) => Q (.list ds) ρ
  | _ => False
@[simp] theorem wp_pk {Q : PyData → Rho → Prop} {i : Nat} {ρ : Rho} : wp (pk i) Q ρ ↔ pkQ Q ρ ρ[i]? := by
  unfold wp pk
  rcases h : ρ[i]? with _ | _ | _ | _ | _ <;> with_unfolding_all exact Iff.rfl
def putQ (Q : Rho → Prop) (i : Nat) (x : Vl) (ρ : Rho) : Option Slt → Prop
  | none => False
  | some (some (.lnt _)) => False
  | some _ => Q (ρ.set i (some x))
@[simp] theorem wp_put {Q : Unit → Rho → Prop} {i : Nat} {x : Vl} {ρ : Rho} : wp (put i x) Q ρ ↔ putQ (Q ()) i x ρ ρ[i]? := by
  unfold wp put
  rcases h : ρ[i]? with _ | _ | _ | _ | _ <;> with_unfolding_all exact Iff.rfl
def ownQ (Q : List PyData → Rho → Prop) (ρ : Rho) : Option Slt → Prop
  | some (some (.lst ds)) => Q ds ρ
  | some (some (.lnt ds)) => Q ds ρ
  | _ => False
@[simp] theorem wp_own {Q : List PyData → Rho → Prop} {i : Nat} {ρ : Rho} : wp (ownL i) Q ρ ↔ ownQ Q ρ ρ[i]? := by
  unfold wp ownL
  rcases h : ρ[i]? with _ | _ | _ | _ | _ <;> with_unfolding_all exact Iff.rfl
def wrQ (Q : Rho → Prop) (i : Nat) (es : List PyData) (ρ : Rho) : Option Slt → Prop
  | some (some (.lst _)) => Q (ρ.set i (some (.lst es)))
  | some (some (.lnt _)) => Q (ρ.set i (some (.lnt es)))
  | _ => False
@[simp] theorem wp_wr {Q : Unit → Rho → Prop} {i : Nat} {es : List PyData} {ρ : Rho} : wp (wr i es) Q ρ ↔ wrQ (Q ()) i es ρ ρ[i]? := by
  unfold wp wr
  rcases h : ρ[i]? with _ | _ | _ | _ | _ <;> with_unfolding_all exact Iff.rfl
def callQ (Q : PyData → Rho → Prop) (ρ : Rho) : Vl → Slt → Prop
  | .dat d, _ => Q d ρ
  | .lst ds, _ => Q (.list ds) ρ
  | .lnt _, _ => False
@[simp] theorem wp_call {C : Ctx} {f : Str} {ds : List PyData} {Q : PyData → Rho → Prop} {ρ : Rho} : wp (doCall C f ds) Q ρ ↔ fnR C f (ds.map .dat) (callQ Q ρ) := by
  unfold wp doCall fnR
  rcases h : C.fn f (ds.map .dat) with _ | ⟨_ | _ | _, _⟩ <;> with_unfolding_all exact Iff.rfl
def ioQ (Q : PyData → Rho → Prop) (i : Nat) (ρ : Rho) : Vl → Slt → Prop
  | .dat d, some (.lnt o) => wrQ (Q d) i o ρ ρ[i]?
  | _, _ => False
@[simp] theorem wp_io {C : Ctx} {f : Str} {i : Nat} {ds : List PyData} {Q : PyData → Rho → Prop} {ρ : Rho} : wp (doIo C f i ds) Q ρ ↔ ownQ (fun own ρ => fnR C f (.lnt own :: ds.map .dat) (ioQ Q i ρ)) ρ ρ[i]? := by
  unfold doIo
  rw [wp_bnd, wp_own]
  have key : ∀ own, wp (match C.fn f (.lnt own :: ds.map .dat) with
      | some (.dat d, some (.lnt own')) => bnd (wr i own') fun _ => ret d
      | _ => fail) Q ρ ↔ fnR C f (.lnt own :: ds.map .dat) (ioQ Q i ρ) := by
    intro own
    unfold fnR
    rcases h : C.fn f (.lnt own :: ds.map .dat) with _ | ⟨_ | _ | _, _ | _ | _ | _⟩
    case some.dat.some.lnt => with_unfolding_all exact wp_bnd.trans wp_wr
    all_goals with_unfolding_all exact Iff.rfl
  rcases h : ρ[i]? with _ | _ | _ | _ | _
  case some.some.lst => with_unfolding_all exact key _
  case some.some.lnt => with_unfolding_all exact key _
  all_goals with_unfolding_all exact Iff.rfl
/-- the outcome of a body -/
def bkQ (Q : Slt → Prop) : Option Slt → Prop
  | none => False
  | some s => Q s
def outQ (Q : Vl → Slt → Prop) (io : Bool) : Out → Rho → Prop
  | .rt x, ρ => bkQ (Q x) (backIo io ρ)
  | .nx, ρ => bkQ (Q (.dat .none)) (backIo io ρ)
theorem fnR_run {P : Prg} {k : Nat} {f : Str} {d : Fn} {as : List Vl} {Q : Vl → Slt → Prop} (hf : P.fns f = some d) (hl : as.length = d.ps) : fnR (P.at (k + 1)) f as Q ↔ wp (exs (P.at k) d.body) (outQ Q d.io) (startR d as) := by
  have e0 : fnR (P.at (k + 1)) f as Q ↔ cQ Q ((P.fns f).bind fun d => runFn (P.at k) d as) := by
    unfold fnR
    exact Iff.rfl
  rw [e0, hf]
  show cQ Q (runFn (P.at k) d as) ↔ _
  unfold runFn wp
  rw [if_pos hl]
  rcases h : exs (P.at k) d.body (startR d as) with _ | ⟨_ | x, ρ⟩
  · with_unfolding_all exact Iff.rfl
  · show cQ Q (Option.map _ (backIo d.io ρ)) ↔ bkQ _ (backIo d.io ρ)
    cases backIo d.io ρ <;> with_unfolding_all exact Iff.rfl
  · show cQ Q (Option.map _ (backIo d.io ρ)) ↔ bkQ _ (backIo d.io ρ)
    cases backIo d.io ρ <;> with_unfolding_all exact Iff.rfl
/-! ### loops -/
theorem lcL_pure {b : PyData → M (Option PyData)} {own : List Nat} {ρ : Rho} (f : PyData → Option PyData) : ∀ (ds : List PyData),
    (∀ d ∈ ds, wp (b d) (fun o ρ' => o = f d ∧ wipeR ρ' own = ρ) ρ) → lcL b own ds ρ = some (ds.filterMap f, ρ)
  | [], _ => rfl
  | d :: ds, h => by
    obtain ⟨o, ρ1, e1, p1, i1⟩ := wp_ex.mp (h d List.mem_cons_self)
    have h2 := lcL_pure (own := own) f ds fun x hx => h x (List.mem_cons_of_mem _ hx)
    unfold lcL
    rw [e1]
    dsimp only
    rw [i1, h2]
    dsimp only
    rw [p1, List.filterMap_cons]
    cases f d <;> rfl
theorem wp_lc {b : PyData → M (Option PyData)} {own : List Nat} {ds : List PyData} {ρ : Rho} {Q : PyData → Rho → Prop} (f : PyData → Option PyData) (hn : noOwn ρ own = true)
    (h : ∀ d ∈ ds, wp (b d) (fun o ρ' => o = f d ∧ wipeR ρ' own = wipeR ρ own) (wipeR ρ own)) (q : Q (.list (ds.filterMap f)) (backR ρ (wipeR ρ own) own)) : wp (lcM b own ds) Q ρ := by
  unfold wp lcM
  rw [if_pos hn, lcL_pure f ds h]
  exact q
/-- with an invariant that counts the turns; what is in the list -/
theorem wp_lcL {b : PyData → M (Option PyData)} {own : List Nat} (I : Nat → Rho → Prop) (P : PyData → Prop) : ∀ (ds : List PyData) (n : Nat) (ρ : Rho), I n ρ →
    (∀ d ∈ ds, ∀ n' ρ, n' < n + ds.length → I n' ρ → wp (b d) (fun o ρ' => (∀ y, o = some y → P y) ∧ I (n' + 1) (wipeR ρ' own)) ρ) → wp (lcL b own ds) (fun r ρ' => (∀ y ∈ r, P y) ∧ r.length ≤ ds.length ∧ I (n + ds.length) ρ') ρ
  | [], n, ρ, h, _ => wp_ret.mpr ⟨(fun _ h => nomatch h), Nat.le_refl _, h⟩
  | d :: ds, n, ρ, h, hb => by
    have e3 : n + 1 + ds.length = n + (ds.length + 1) := by omega
    obtain ⟨o, ρ1, e1, p1, i1⟩ := wp_ex.mp (hb d List.mem_cons_self n ρ (by rw [List.length_cons]; omega) h)
    obtain ⟨r, ρ2, e2, er, el, i2⟩ := wp_ex.mp (wp_lcL I P ds (n + 1) _ i1 fun x hx n' ρ' hn => hb x (List.mem_cons_of_mem _ hx) n' ρ' (by rw [List.length_cons]; omega))
    unfold wp lcL
    rw [e1]
    dsimp only
    rw [e2]
    cases o with
    | none => exact ⟨er, Nat.le_succ_of_le el, e3 ▸ i2⟩
    | some y =>
      refine ⟨fun z hz => ?_, Nat.succ_le_succ el, e3 ▸ i2⟩
      rcases List.mem_cons.mp hz with rfl | hz
      · exact p1 _ rfl
      · exact er z hz
theorem wp_lcI {b : PyData → M (Option PyData)} {own : List Nat} {ds : List PyData} {ρ : Rho} {Q : PyData → Rho → Prop} (I : Nat → Rho → Prop) (P : PyData → Prop) (hn : noOwn ρ own = true) (h0 : I 0 (wipeR ρ own))
    (hb : ∀ d ∈ ds, ∀ n ρ, n < ds.length → I n ρ → wp (b d) (fun o ρ' => (∀ y, o = some y → P y) ∧ I (n + 1) (wipeR ρ' own)) ρ) (q : ∀ r ρ', (∀ y ∈ r, P y) → r.length ≤ ds.length → I ds.length ρ' → Q (.list r) (backR ρ ρ' own)) : wp (lcM b own ds) Q ρ := by
  obtain ⟨r, ρ', e, er, el, i⟩ := wp_ex.mp (wp_lcL (own := own) I P ds 0 _ h0 fun d hd n ρ hn => hb d hd n ρ (by omega))
  unfold wp lcM
  rw [if_pos hn, e]
  rw [Nat.zero_add] at i
  exact q r ρ' er el i
/-- for, with an invariant that counts the turns; a turn may end the body -/
theorem wp_for {b : PyData → M Out} {Q : Out → Rho → Prop} (I : Nat → Rho → Prop) : ∀ (ds : List PyData) (n : Nat) (ρ : Rho), I n ρ →
    (∀ d ∈ ds, ∀ n' ρ, n' < n + ds.length → I n' ρ → wp (b d) (fun o ρ' => (o = .nx ∧ I (n' + 1) ρ') ∨ (∃ x, o = .rt x ∧ Q o ρ')) ρ) → (∀ ρ', I (n + ds.length) ρ' → Q .nx ρ') → wp (forL b ds) Q ρ
  | [], n, ρ, h, _, q => wp_ret.mpr (q _ h)
  | d :: ds, n, ρ, h, hb, q => by
    have e3 : n + 1 + ds.length = n + (ds.length + 1) := by omega
    obtain ⟨o, ρ1, e1, p1⟩ := wp_ex.mp (hb d List.mem_cons_self n ρ (by rw [List.length_cons]; omega) h)
    unfold forL
    rw [wp_bnd]
    refine wp_ex.mpr ⟨o, ρ1, e1, ?_⟩
    rcases p1 with ⟨rfl, i1⟩ | ⟨x, rfl, p1⟩
    · exact wp_for I ds (n + 1) ρ1 i1 (fun x hx n' ρ' hn => hb x (List.mem_cons_of_mem _ hx) n' ρ' (by rw [List.length_cons]; omega)) fun ρ' h' => q ρ' (e3 ▸ h')
    · exact wp_ret.mpr p1
/-- for, as a test of all -/
theorem wp_forAll {b : PyData → M Out} {Q : Out → Rho → Prop} (I : Rho → Prop) (p : PyData → Bool) (x : Vl) : ∀ (ds : List PyData) (ρ : Rho), I ρ →
    (∀ d ∈ ds, ∀ ρ, I ρ → wp (b d) (fun o ρ' => (p d = true ∧ o = .nx ∧ I ρ') ∨ (p d = false ∧ o = .rt x)) ρ) → (ds.all p = true → ∀ ρ', I ρ' → Q .nx ρ') → (ds.all p = false → ∀ ρ', Q (.rt x) ρ') → wp (forL b ds) Q ρ
  | [], ρ, h, _, q, _ => wp_ret.mpr (q rfl _ h)
  | d :: ds, ρ, h, hb, q, q2 => by
    obtain ⟨o, ρ1, e1, p1⟩ := wp_ex.mp (hb d List.mem_cons_self ρ h)
    unfold forL
    rw [wp_bnd]
    refine wp_ex.mpr ⟨o, ρ1, e1, ?_⟩
    rcases p1 with ⟨e, rfl, i1⟩ | ⟨e, rfl⟩
    · exact wp_forAll I p x ds ρ1 i1 (fun x hx => hb x (List.mem_cons_of_mem _ hx)) (fun h2 => q (by rw [List.all_cons, e, h2]; rfl)) fun h2 => q2 (by rw [List.all_cons, e, h2]; rfl)
    · exact wp_ret.mpr (q2 (by rw [List.all_cons, e]; rfl) _)
theorem wp_lcMap {mt : PyData → M Unit} {me : M PyData} {own : List Nat} {ds : List PyData} {ρ : Rho} {Q : PyData → Rho → Prop} (g : PyData → PyData) (hn : noOwn ρ own = true)
    (h : ∀ d ∈ ds, wp (mt d) (fun _ => wp me fun y ρ' => y = g d ∧ wipeR ρ' own = wipeR ρ own) (wipeR ρ own)) (q : Q (.list (ds.map g)) (backR ρ (wipeR ρ own) own)) : wp (lcM (lcB mt (ret (.bool true)) me) own ds) Q ρ := by
  refine wp_lc (fun d => some (g d)) hn (fun d hd => ?_) ?_
  · unfold lcB
    rw [wp_bnd]
    refine (h d hd).mono fun _ ρ1 h1 => ?_
    rw [wp_bnd, wp_ret, wp_bnd]
    rw [show asB (.bool true) = some true from rfl, wp_some, if_pos rfl, wp_bnd]
    refine h1.mono fun y ρ2 h2 => ?_
    rw [wp_ret]
    exact ⟨congrArg some h2.1, h2.2⟩
  · have e : ds.filterMap (fun d => some (g d)) = ds.map g := List.filterMap_eq_map (f := g) ▸ rfl
    rw [e]
    exact q
theorem wp_lcFil {mt : PyData → M Unit} {mc me : M PyData} {own : List Nat} {ds : List PyData} {ρ : Rho} {Q : PyData → Rho → Prop} (p : PyData → Bool) (g : PyData → PyData) (hn : noOwn ρ own = true)
    (h : ∀ d ∈ ds, wp (mt d) (fun _ => wp mc fun k ρ1 => k = .bool (p d) ∧ if p d = true then wp me (fun y ρ' => y = g d ∧ wipeR ρ' own = wipeR ρ own) ρ1 else wipeR ρ1 own = wipeR ρ own) (wipeR ρ own))
    (q : Q (.list ((ds.filter p).map g)) (backR ρ (wipeR ρ own) own)) : wp (lcM (lcB mt mc me) own ds) Q ρ := by
  refine wp_lc (fun d => if p d = true then some (g d) else none) hn (fun d hd => ?_) ?_
  · unfold lcB
    rw [wp_bnd]
    refine (h d hd).mono fun _ ρ1 h1 => ?_
    rw [wp_bnd]
    refine h1.mono fun y ρ2 ⟨h2, h3⟩ => ?_
    subst h2
    rw [wp_bnd]
    rw [show asB (.bool (p d)) = some (p d) from rfl, wp_some, wp_ite]
    split
    · rename_i hp
      rw [if_pos hp] at h3
      rw [wp_bnd]
      refine h3.mono fun y ρ2 h2 => ?_
      rw [wp_ret]
      exact ⟨congrArg some h2.1, h2.2⟩
    · rename_i hp
      rw [if_neg hp] at h3
      exact wp_ret.mpr ⟨rfl, h3⟩
  · have e : ds.filterMap (fun d => if p d = true then some (g d) else none) = (ds.filter p).map g := by
      clear h q
      induction ds with
      | nil => rfl
      | cons d ds ih =>
        rw [List.filterMap_cons, List.filter_cons]
        cases p d with
        | true => simp [ih]
        | false => simp [ih]
    rw [e]
    exact q
theorem asBs_map (f : PyData → Bool) : ∀ ds : List PyData, asBs (ds.map fun d => .bool (f d)) = some (ds.map f)
  | [] => rfl
  | d :: ds => by
    show (asBs (ds.map fun d => .bool (f d))).map (f d :: ·) = _
    rw [asBs_map f ds]
    rfl
@[simp] theorem opAll_map (f : PyData → Bool) (ds : List PyData) : opBi .all (.list (ds.map fun d => .bool (f d))) = some (.bool (ds.all f)) := by
  show (asBs _).map _ = _
  rw [asBs_map]
  simp [List.all_map]
@[simp] theorem opAny_map (f : PyData → Bool) (ds : List PyData) : opBi .any (.list (ds.map fun d => .bool (f d))) = some (.bool (ds.any f)) := by
  show (asBs _).map _ = _
  rw [asBs_map]
  simp [List.any_map]
@[simp] theorem eqD_nilL (ds : List PyData) : eqD (.list ds) (.list []) = some (ds.isEmpty) := by
  unfold eqD
  rw [if_pos (Nat.le_trans (Nat.min_le_right _ _) (by decide))]
  cases ds <;> rfl
@[simp] theorem eqD_nilT (d : PyData) : eqD d (.tuple []) = some (match d with | .tuple [] => true | _ => false) := by
  unfold eqD
  rw [if_pos (Nat.le_trans (Nat.min_le_right _ _) (by decide))]
  cases d with
  | tuple ds => cases ds <;> rfl
  | _ => rfl
@[simp] theorem eqD_ii (i j : Int) : eqD (.int i) (.int j) = some (decide (i = j)) := by
  unfold eqD
  rw [if_pos (Nat.le_trans (Nat.min_le_right _ _) (by simp [PyData.depth]))]
  by_cases h : i = j <;> simp [PyData.eqv, h]
@[simp] theorem eqD_bb (i j : Bool) : eqD (.bool i) (.bool j) = some (i == j) := by
  unfold eqD
  rw [if_pos (Nat.le_trans (Nat.min_le_right _ _) (by simp [PyData.depth]))]
  simp [PyData.eqv]
@[simp] theorem eqD_ss (i j : Str) : eqD (.str i) (.str j) = some (i == j) := by
  unfold eqD
  rw [if_pos (Nat.le_trans (Nat.min_le_right _ _) (by simp [PyData.depth]))]
  simp [PyData.eqv]
theorem cut_from (l : List PyData) (k : Nat) : cutD l (some (k : Int)) none = l.drop k := by
  unfold cutD
  rw [HT.sIx_nat, HT.sIx_none]
  rcases Nat.le_total k l.length with h | h
  · rw [Nat.min_eq_left h, List.take_of_length_le (by rw [List.length_drop]; exact Nat.le_refl _)]
  · rw [Nat.min_eq_right h, List.drop_eq_nil_of_le (Nat.le_refl _), List.drop_eq_nil_of_le h, List.take_nil]
theorem cut_to (l : List PyData) (k : Nat) : cutD l none (some (k : Int)) = l.take k := by
  unfold cutD
  rw [HT.sIx_nat, HT.sIx_none, List.drop_zero, Nat.sub_zero]
  rcases Nat.le_total k l.length with h | h
  · rw [Nat.min_eq_left h]
  · rw [Nat.min_eq_right h, List.take_of_length_le (Nat.le_refl _), List.take_of_length_le h]
theorem cut_toI (l : List PyData) {i : Int} (h : 0 ≤ i) : cutD l none (some i) = l.take i.toNat := by
  obtain ⟨k, rfl⟩ : ∃ k : Nat, i = k := ⟨i.toNat, by omega⟩
  exact cut_to l k
@[simp] theorem cut_from1 (l : List PyData) : cutD l (some 1) none = l.drop 1 := cut_from l 1
@[simp] theorem cut_to1 (l : List PyData) : cutD l none (some 1) = l.take 1 := cut_to l 1
@[simp] theorem atI0 {a : PyData} {l : List PyData} : L2.atI (a :: l) 0 = some a := by simp [L2.atI, L2.ixN]
@[simp] theorem atI1 {a b : PyData} {l : List PyData} : L2.atI (a :: b :: l) 1 = some b := by
  have h : (1 : Int) < ((l.length : Nat) : Int) + 1 + 1 := by omega
  simp [L2.atI, L2.ixN, h]
theorem atI_nat {l : List PyData} {n : Nat} : L2.atI l (n : Int) = l[n]? := by
  unfold L2.atI L2.ixN
  rw [if_pos (by omega)]
  by_cases h : n < l.length
  · rw [if_pos (by omega)]
    rfl
  · rw [if_neg (by omega), List.getElem?_eq_none (by omega)]
    rfl
@[simp] theorem filter_empty (p : PyData → Bool) (g : PyData → PyData) (ds : List PyData) : ((ds.filter p).map g).isEmpty = ds.all fun d => !p d := by
  induction ds with
  | nil => rfl
  | cons d ds ih =>
    rw [List.filter_cons, List.all_cons]
    cases p d
    · exact ih
    · rfl
@[simp] theorem filter_none (p : PyData → Bool) (ds : List PyData) : (ds.filter p).isEmpty = ds.all fun d => !p d := by
  have := filter_empty p id ds
  rwa [List.map_id] at this
theorem rngOf_small {lo hi : Int} (h1 : -1000000 ≤ lo) (h2 : lo ≤ 1000000) (h3 : -1000000 ≤ hi) (h4 : hi ≤ 1000000) : rngOf lo hi = some (rngL lo (hi - lo).toNat) := by
  unfold rngOf
  have e : (2 : Nat) ^ 62 = 4611686018427387904 := by decide +kernel
  have el : (hi - lo).toNat ≤ 2000000 := by omega
  rw [e, if_pos ⟨by omega, by omega, Nat.le_trans el (by decide)⟩]
def RSs.hd : RSs → RS
  | .cons s _ => s
  | .nil => .never
def RSs.tl : RSs → RSs
  | .cons _ ss => ss
  | .nil => .nil
/-- a slot that is no list of one's own -/
def dS : Slt → Prop
  | none => True
  | some (.dat _) => True
  | _ => False
@[simp] theorem dS_dat (d : PyData) : dS (some (.dat d)) := trivial
@[simp] theorem dS_none : dS none := trivial
theorem putQ_dS {Q : Rho → Prop} {i : Nat} {x : Vl} {ρ : Rho} {a : Slt} (h : dS a) : putQ Q i x ρ (some a) ↔ Q (ρ.set i (some x)) := by
  rcases a with _ | _ | _ | _ <;> first | with_unfolding_all exact Iff.rfl | cases h
/-- a slot that may be set -/
def oS : Slt → Prop
  | some (.lnt _) => False
  | _ => True
theorem putQ_oS {Q : Rho → Prop} {i : Nat} {x : Vl} {ρ : Rho} {a : Slt} (h : oS a) : putQ Q i x ρ (some a) ↔ Q (ρ.set i (some x)) := by
  rcases a with _ | _ | _ | _ <;> first | with_unfolding_all exact Iff.rfl | cases h
def noOwn1 : Slt → Bool
  | none => true
  | some (.dat _) => true
  | _ => false
theorem noOwn1_dS {a : Slt} (h : dS a) : (match some a with | some none => true | some (some (.dat _)) => true | _ => false) = true := by
  rcases a with _ | _ | _ | _ <;> first | rfl | cases h
@[simp] theorem Prg.at_gls (P : Prg) : ∀ k, (P.at k).gl = P.gls
  | 0 => rfl
  | _ + 1 => rfl
theorem fnR_iff {C : Ctx} {f : Str} {as : List Vl} {Q : Vl → Slt → Prop} {r : Vl} {s0 : Slt} (h : fnR C f as fun x s => x = r ∧ s = s0) : fnR C f as Q ↔ Q r s0 := by
  obtain ⟨x, s, e, h1, h2⟩ := fnR_ex.mp h
  subst h1 h2
  unfold fnR
  rw [e]
  with_unfolding_all exact Iff.rfl
@[simp] theorem outQ_rt {Q : Vl → Slt → Prop} {io : Bool} {x : Vl} {ρ : Rho} : outQ Q io (.rt x) ρ ↔ bkQ (Q x) (backIo io ρ) := Iff.rfl
@[simp] theorem outQ_nx {Q : Vl → Slt → Prop} {io : Bool} {ρ : Rho} : outQ Q io .nx ρ ↔ bkQ (Q (.dat .none)) (backIo io ρ) := Iff.rfl
@[simp] theorem bkQ_some {Q : Slt → Prop} {s : Slt} : bkQ Q (some s) ↔ Q s := Iff.rfl
@[simp] theorem backIo_f {ρ : Rho} : backIo false ρ = some none := rfl
@[simp] theorem backIo_t {ds : List PyData} {ρ : Rho} : backIo true (some (.lnt ds) :: ρ) = some (some (.lnt ds)) := rfl
section
variable {b : Bool} {i j : Int} {x y : Str} {l m : List PyData} {d e : PyData}
@[simp] theorem asB_bool : asB (.bool b) = some b := rfl
@[simp] theorem asI_int : asI (.int i) = some i := rfl
@[simp] theorem opAdd_ii : opBin .add (.int i) (.int j) = some (.int (i + j)) := rfl
@[simp] theorem opAdd_bi : opBin .add (.bool b) (.int j) = some (.int (b2i b + j)) := rfl
@[simp] theorem opAdd_ll : opBin .add (.list l) (.list m) = if l.length + m.length ≤ lim then some (.list (l ++ m)) else none := rfl
@[simp] theorem opAdd_tt : opBin .add (.tuple l) (.tuple m) = if l.length + m.length ≤ lim then some (.tuple (l ++ m)) else none := rfl
@[simp] theorem opSub_ii : opBin .sub (.int i) (.int j) = some (.int (i - j)) := rfl
@[simp] theorem opSub_bi : opBin .sub (.bool b) (.int j) = some (.int (b2i b - j)) := rfl
@[simp] theorem opMul_ii : opBin .mul (.int i) (.int j) = if i.natAbs < 2 ^ 64 ∨ j.natAbs < 2 ^ 64 then some (.int (i * j)) else none := rfl
@[simp] theorem opDiv_ii : opBin .fdiv (.int i) (.int j) = if 0 < j ∧ j.natAbs < 1073741824 then some (.int (i / j)) else none := rfl
@[simp] theorem opMod_ii : opBin .mod (.int i) (.int j) = if 0 < j then some (.int (i % j)) else none := rfl
@[simp] theorem opPow_ii : opBin .pow (.int i) (.int j) = if 0 ≤ j ∧ j ≤ 1000000 ∧ i.natAbs < 2 ^ 64 then some (.int (i ^ j.toNat)) else none := rfl
@[simp] theorem opLen_l : opBi .len (.list l) = some (.int l.length) := rfl
@[simp] theorem opLen_t : opBi .len (.tuple l) = some (.int l.length) := rfl
@[simp] theorem opLen_s : opBi .len (.str x) = if x.length ≤ lim then some (.int x.length) else none := rfl
@[simp] theorem opTup_l : opBi .tuple (.list l) = some (.tuple l) := rfl
@[simp] theorem opTup_t : opBi .tuple (.tuple l) = some (.tuple l) := rfl
@[simp] theorem opLst_l : opBi .list (.list l) = some (.list l) := rfl
@[simp] theorem opLst_t : opBi .list (.tuple l) = some (.list l) := rfl
@[simp] theorem opStr_i : opBi .str (.int i) = if i.natAbs.log2 < 1920 then some (.str (toString i)) else none := rfl
@[simp] theorem opStr_b : opBi .str (.bool b) = some (.str (if b then "True" else "False")) := rfl
@[simp] theorem opSrt_l : opBi .sorted (.list l) = if sortOk l = true ∧ l.length ≤ lim then some (.list (sortD l)) else none := rfl
@[simp] theorem opIdx_l : opIdx (.list l) (.int i) = L2.atI l i := rfl
@[simp] theorem opIdx_t : opIdx (.tuple l) (.int i) = L2.atI l i := rfl
@[simp] theorem opCmp_eq : opCmp .eq d e = eqD d e := rfl
@[simp] theorem opCmp_ne : opCmp .ne d e = (eqD d e).map (!·) := rfl
@[simp] theorem opCmp_in : opCmp .isin d e = inD d e := rfl
@[simp] theorem opCmp_ni : opCmp .notin d e = (inD d e).map (!·) := rfl
@[simp] theorem opLt_ii : opCmp .lt (.int i) (.int j) = some (decide (i < j)) := rfl
@[simp] theorem opLe_ii : opCmp .le (.int i) (.int j) = some (decide (i ≤ j)) := rfl
@[simp] theorem opGt_ii : opCmp .gt (.int i) (.int j) = some (decide (j < i)) := rfl
@[simp] theorem opGe_ii : opCmp .ge (.int i) (.int j) = some (decide (j ≤ i)) := rfl
@[simp] theorem opLt_ss : opCmp .lt (.str x) (.str y) = some (decide (x.cps.toList < y.cps.toList)) := rfl
@[simp] theorem opLe_ss : opCmp .le (.str x) (.str y) = some (!decide (y.cps.toList < x.cps.toList)) := rfl
@[simp] theorem opGt_ss : opCmp .gt (.str x) (.str y) = some (decide (y.cps.toList < x.cps.toList)) := rfl
@[simp] theorem opGe_ss : opCmp .ge (.str x) (.str y) = some (!decide (x.cps.toList < y.cps.toList)) := rfl
@[simp] theorem seqOf_l : seqOf (.list l) = some l := rfl
@[simp] theorem seqOf_t : seqOf (.tuple l) = some l := rfl
@[simp] theorem seqOf_s : seqOf (.str x) = if x.length ≤ lim then some (x.cps.toList.map fun c => .str ⟨#[c]⟩) else none := rfl
@[simp] theorem zipOf_l : zipOf (.list l) (.list m) = some (zipL l m) := rfl
@[simp] theorem zipOf_t : zipOf (.tuple l) (.tuple m) = some (zipL l m) := rfl
@[simp] theorem enmOf_l : enmOf (.list l) = some (enmL 0 l) := rfl
@[simp] theorem opSl_l {o p : Option Int} : opSl o p (.list l) = some (.list (cutD l o p)) := rfl
@[simp] theorem opSl_t {o p : Option Int} : opSl o p (.tuple l) = some (.tuple (cutD l o p)) := rfl
@[simp] theorem opRev_l : opRev (.list l) = some (.list l.reverse) := rfl
@[simp] theorem opRev_t : opRev (.tuple l) = some (.tuple l.reverse) := rfl
@[simp] theorem inStr1 {c : Nat} : inD (.str ⟨#[c]⟩) (.str y) = some (decide (c ∈ y.cps.toList)) := rfl
end
section
variable {Q : Unit → Rho → Prop} {ρ : Rho} {l : List PyData} {d : PyData} {t : Tg} {ts : Tgs} {i : Nat}
@[simp] theorem bindT_nm : bindT (.nm i) d = put i (.dat d) := rfl
@[simp] theorem bindT_tp : bindT (.tp ts) (.tuple l) = bindTs ts l := rfl
@[simp] theorem bindTs_nil : bindTs .nil [] = ret () := rfl
@[simp] theorem bindTs_cons : bindTs (.cons t ts) (d :: l) = bnd (bindT t d) fun _ => bindTs ts l := rfl
end
section
variable {C : Ctx}
def doO (C : Ctx) (f : Str) (ds : List PyData) : M Vl := match C.fn f (ds.map .dat) with
  | some (.lst ds, _) => ret (.lst ds)
  | _ => fail
def ocQ (Q : Vl → Rho → Prop) (ρ : Rho) : Vl → Slt → Prop
  | .lst l, _ => Q (.lst l) ρ
  | _, _ => False
@[simp] theorem wp_doO {f : Str} {ds : List PyData} {Q : Vl → Rho → Prop} {ρ : Rho} : wp (doO C f ds) Q ρ ↔ fnR C f (ds.map .dat) (ocQ Q ρ) := by
  unfold wp doO fnR
  rcases h : C.fn f (ds.map .dat) with _ | ⟨_ | _ | _, _⟩ <;> with_unfolding_all exact Iff.rfl
@[simp] theorem ocQ_lst {Q : Vl → Rho → Prop} {ρ : Rho} {l : List PyData} {s : Slt} : ocQ Q ρ (.lst l) s ↔ Q (.lst l) ρ := Iff.rfl
/-- a list made is one's own -/
def mkO (m : M PyData) : M Vl := bnd m fun
  | .list ds => ret (.lst ds)
  | _ => fail
def mkQ (Q : Vl → Rho → Prop) : PyData → Rho → Prop
  | .list l, ρ => Q (.lst l) ρ
  | _, _ => False
@[simp] theorem wp_mkO {m : M PyData} {Q : Vl → Rho → Prop} {ρ : Rho} : wp (mkO m) Q ρ ↔ wp m (mkQ Q) ρ := by
  unfold mkO
  rw [wp_bnd]
  unfold wp
  rcases m ρ with _ | ⟨_ | _ | _ | _ | _ | _ | _, _⟩ <;> with_unfolding_all exact Iff.rfl
@[simp] theorem mkQ_list {Q : Vl → Rho → Prop} {l : List PyData} {ρ : Rho} : mkQ Q (.list l) ρ ↔ Q (.lst l) ρ := Iff.rfl
@[simp] theorem evO_call {f : Str} {es : REs} : evO C (.call f es) = bnd (evs C es) fun ds => doO C f ds := rfl
@[simp] theorem evO_lst {es : REs} : evO C (.lst es) = mkO (ev C (.lst es)) := rfl
@[simp] theorem evO_bi {b : Bi} {a : RE} : evO C (.bi b a) = mkO (ev C (.bi b a)) := rfl
@[simp] theorem evO_bin {o : Bop} {a b : RE} : evO C (.bin o a b) = mkO (ev C (.bin o a b)) := rfl
@[simp] theorem evO_lc {a : RE} {t : Tg} {it : RI} {o : List Nat} : evO C (.lc a t it o) = mkO (ev C (.lc a t it o)) := rfl
@[simp] theorem evO_lcIf {a : RE} {t : Tg} {it : RI} {c : RE} {o : List Nat} : evO C (.lcIf a t it c o) = mkO (ev C (.lcIf a t it c o)) := rfl
@[simp] theorem evO_slTo {a b : RE} : evO C (.slTo a b) = mkO (ev C (.slTo a b)) := rfl
@[simp] theorem evO_slFrom {a b : RE} : evO C (.slFrom a b) = mkO (ev C (.slFrom a b)) := rfl
@[simp] theorem evO_rev {a : RE} : evO C (.rev a) = mkO (ev C (.rev a)) := rfl
end
section
variable {C : Ctx} {s : RS} {ss : RSs} {Q : Out → Rho → Prop} {ρ : Rho}
/-- what follows a statement -/
def seqQ (C : Ctx) (ss : RSs) (Q : Out → Rho → Prop) : Out → Rho → Prop
  | .nx, ρ => wp (exs C ss) Q ρ
  | .rt x, ρ => Q (.rt x) ρ
@[simp] theorem wp_exs_nil : wp (exs C .nil) Q ρ ↔ Q .nx ρ := by unfold wp; with_unfolding_all exact Iff.rfl
@[simp] theorem wp_exs_cons : wp (exs C (.cons s ss)) Q ρ ↔ wp (ex C s) (seqQ C ss Q) ρ := by
  unfold exs
  rw [wp_bnd]
  unfold wp
  rcases ex C s ρ with _ | ⟨_ | _, _⟩ <;> with_unfolding_all exact Iff.rfl
@[simp] theorem seqQ_nx : seqQ C ss Q .nx ρ ↔ wp (exs C ss) Q ρ := by with_unfolding_all exact Iff.rfl
@[simp] theorem seqQ_rt {x : Vl} : seqQ C ss Q (.rt x) ρ ↔ Q (.rt x) ρ := Iff.rfl
end
section
variable {Q : PyData → Rho → Prop} {R : Rho → Prop} {L : List PyData → Rho → Prop} {ρ : Rho} {i : Nat} {x : Vl} {d : PyData} {l es : List PyData} {s : Slt}
@[simp] theorem rdQ_dat : rdQ Q i ρ (some (some (.dat d))) ↔ Q d ρ := Iff.rfl
@[simp] theorem rdQ_lst : rdQ Q i ρ (some (some (.lst l))) ↔ Q (.list l) (ρ.set i (some (.dat (.list l)))) := Iff.rfl
@[simp] theorem pkQ_dat : pkQ Q ρ (some (some (.dat d))) ↔ Q d ρ := Iff.rfl
@[simp] theorem pkQ_lst : pkQ Q ρ (some (some (.lst l))) ↔ Q (.list l) ρ := Iff.rfl
@[simp] theorem pkQ_lnt : pkQ Q ρ (some (some (.lnt l))) ↔ Q (.list l) ρ := Iff.rfl
@[simp] theorem putQ_none : putQ R i x ρ (some none) ↔ R (ρ.set i (some x)) := Iff.rfl
@[simp] theorem putQ_dat : putQ R i x ρ (some (some (.dat d))) ↔ R (ρ.set i (some x)) := Iff.rfl
@[simp] theorem putQ_lst : putQ R i x ρ (some (some (.lst l))) ↔ R (ρ.set i (some x)) := Iff.rfl
@[simp] theorem ownQ_lst : ownQ L ρ (some (some (.lst l))) ↔ L l ρ := Iff.rfl
@[simp] theorem ownQ_lnt : ownQ L ρ (some (some (.lnt l))) ↔ L l ρ := Iff.rfl
@[simp] theorem wrQ_lst : wrQ R i es ρ (some (some (.lst l))) ↔ R (ρ.set i (some (.lst es))) := Iff.rfl
@[simp] theorem wrQ_lnt : wrQ R i es ρ (some (some (.lnt l))) ↔ R (ρ.set i (some (.lnt es))) := Iff.rfl
@[simp] theorem callQ_dat : callQ Q ρ (.dat d) s ↔ Q d ρ := Iff.rfl
@[simp] theorem callQ_lst : callQ Q ρ (.lst l) s ↔ Q (.list l) ρ := Iff.rfl
@[simp] theorem ioQ_dat : ioQ Q i ρ (.dat d) (some (.lnt l)) ↔ wrQ (Q d) i l ρ ρ[i]? := Iff.rfl
end
section
variable {t : Ty} {b : Bool} {i : Int} {x : Str} {l : List PyData}
@[simp] theorem isTy_none : isTy t .none = false := by cases t <;> rfl
@[simp] theorem isTy_bool : isTy t (.bool b) = (match t with | .int => true | .bool => true | _ => false) := by cases t <;> rfl
@[simp] theorem isTy_int : isTy t (.int i) = (match t with | .int => true | _ => false) := by cases t <;> rfl
@[simp] theorem isTy_str : isTy t (.str x) = (match t with | .str => true | _ => false) := by cases t <;> rfl
@[simp] theorem isTy_list : isTy t (.list l) = (match t with | .list => true | _ => false) := by cases t <;> rfl
@[simp] theorem isTy_tuple : isTy t (.tuple l) = (match t with | .tuple => true | _ => false) := by cases t <;> rfl
@[simp] theorem isTy_dict {m : List (PyData × PyData)} : isTy t (.dict m) = false := by cases t <;> rfl
@[simp] theorem plainB_none : plainB .none = true := rfl
@[simp] theorem plainB_bool : plainB (.bool b) = true := rfl
@[simp] theorem plainB_int : plainB (.int i) = true := rfl
@[simp] theorem plainB_str : plainB (.str x) = true := rfl
@[simp] theorem plainB_list : plainB (.list l) = true := rfl
@[simp] theorem plainB_tuple : plainB (.tuple l) = true := rfl
@[simp] theorem plainB_dict {m : List (PyData × PyData)} : plainB (.dict m) = false := rfl
@[simp] theorem isNone_none : isNone .none = true := rfl
@[simp] theorem isNone_bool : isNone (.bool b) = false := rfl
@[simp] theorem isNone_int : isNone (.int i) = false := rfl
@[simp] theorem isNone_str : isNone (.str x) = false := rfl
@[simp] theorem isNone_list : isNone (.list l) = false := rfl
@[simp] theorem isNone_tuple : isNone (.tuple l) = false := rfl
end
section
variable {C : Ctx} {i : Nat} {n : Int} {s x f : Str} {b : Bool} {es : REs} {o p : Cop} {q : Bop} {a c d e : RE} {t : Tg} {ty : Ty} {ts : List Ty} {it : RI} {own : List Nat} {bi : Bi} {ss tt : RSs}
@[simp] theorem qev_var : ev C (.var i) = rd i := rfl
@[simp] theorem qev_int : ev C (.int n) = ret (.int n) := rfl
@[simp] theorem qev_str : ev C (.str s) = ret (.str s) := rfl
@[simp] theorem qev_bool : ev C (.bool b) = ret (.bool b) := rfl
@[simp] theorem qev_none : ev C .none = ret .none := rfl
@[simp] theorem qev_glb : ev C (.glb x) = ofO (C.gl x) := rfl
@[simp] theorem qev_tup : ev C (.tup es) = bnd (evs C es) fun ds => if ds.length ≤ lim then ret (.tuple ds) else fail := rfl
@[simp] theorem qev_lst : ev C (.lst es) = bnd (evs C es) fun ds => if ds.length ≤ lim then ret (.list ds) else fail := rfl
@[simp] theorem qev_bin : ev C (.bin q a c) = bnd (ev C a) fun x => bnd (ev C c) fun y => ofO (opBin q x y) := rfl
@[simp] theorem qev_neg : ev C (.neg a) = bnd (ev C a) fun x => ofO ((asI x).map fun i => .int (-i)) := rfl
@[simp] theorem qev_not : ev C (.not a) = bnd (ev C a) fun x => ofO ((asB x).map fun b => .bool (!b)) := rfl
@[simp] theorem qev_and : ev C (.and es) = evAnd C es := rfl
@[simp] theorem qev_or : ev C (.or es) = evOr C es := rfl
@[simp] theorem qev_cmp : ev C (.cmp o a c) = two a.isVar (ev C a) (pkO c.isVar (ev C c)) fun x y => ofO ((opCmp o x y).map .bool) := rfl
@[simp] theorem qev_chain : ev C (.chain o p a c d) = bnd (ev C a) fun x => bnd (ev C c) fun y => bnd (ofO (opCmp o x y)) fun k =>
      if k = true then bnd (ev C d) fun z => ofO ((opCmp p y z).map .bool) else ret (.bool false) := rfl
@[simp] theorem qev_isN : ev C (.isN a) = bnd (ev C a) fun x => ret (.bool (isNone x)) := rfl
@[simp] theorem qev_notN : ev C (.notN a) = bnd (ev C a) fun x => ret (.bool (!isNone x)) := rfl
@[simp] theorem qev_ite : ev C (.ite d a c) = bnd (ev C d) fun k => bnd (ofO (asB k)) fun k => if k = true then ev C a else ev C c := rfl
@[simp] theorem qev_isi : ev C (.isi a ty) = bnd (ev C a) fun x => if plainB x = true then ret (.bool (isTy ty x)) else fail := rfl
@[simp] theorem qev_isiT : ev C (.isiT a ts) = bnd (ev C a) fun x => if plainB x = true then ret (.bool (ts.any fun t => isTy t x)) else fail := rfl
@[simp] theorem qev_call : ev C (.call f es) = bnd (evs C es) fun ds => doCall C f ds := rfl
@[simp] theorem qev_callIo : ev C (.callIo f i es) = bnd (pk i) fun _ => bnd (evs C es) fun ds => doIo C f i ds := rfl
@[simp] theorem qev_bi : ev C (.bi bi a) = bnd (pkO (biVar bi a.isVar) (ev C a)) fun x => ofO (opBi bi x) := rfl
@[simp] theorem qev_idx : ev C (.idx a c) = two a.isVar (ev C a) (ev C c) fun x y => ofO (opIdx x y) := rfl
@[simp] theorem qev_slTo : ev C (.slTo a c) = bnd (ev C a) fun x => bnd (ev C c) fun y => ofO ((asI y).bind fun j => opSl none (some j) x) := rfl
@[simp] theorem qev_slFrom : ev C (.slFrom a c) = bnd (ev C a) fun x => bnd (ev C c) fun y => ofO ((asI y).bind fun j => opSl (some j) none x) := rfl
@[simp] theorem qev_rev : ev C (.rev a) = bnd (ev C a) fun x => ofO (opRev x) := rfl
@[simp] theorem qev_lc : ev C (.lc a t it own) = bnd (evI C it) fun ds => lcM (lcB (bindT t) (ret (.bool true)) (ev C a)) own ds := rfl
@[simp] theorem qev_lcIf : ev C (.lcIf a t it c own) = bnd (evI C it) fun ds => lcM (lcB (bindT t) (ev C c) (ev C a)) own ds := rfl
@[simp] theorem qevs_nil : evs C .nil = ret [] := rfl
@[simp] theorem qevs_cons : evs C (.cons a es) = bnd (ev C a) fun d => bnd (evs C es) fun ds => ret (d :: ds) := rfl
@[simp] theorem qevAnd_one : evAnd C (.cons a .nil) = bnd (ev C a) fun x => ofO ((asB x).map .bool) := rfl
@[simp] theorem qevAnd_cons : evAnd C (.cons a (.cons c es)) = bnd (ev C a) fun x => bnd (ofO (asB x)) fun b => if b = true then evAnd C (.cons c es) else ret (.bool false) := rfl
@[simp] theorem qevOr_one : evOr C (.cons a .nil) = bnd (ev C a) fun x => ofO ((asB x).map .bool) := rfl
@[simp] theorem qevOr_cons : evOr C (.cons a (.cons c es)) = bnd (ev C a) fun x => bnd (ofO (asB x)) fun b => if b = true then ret (.bool true) else evOr C (.cons c es) := rfl
@[simp] theorem qevI_seq : evI C (.seq a) = bnd (ev C a) fun x => ofO (seqOf x) := rfl
@[simp] theorem qevI_rng : evI C (.rng a) = bnd (ev C a) fun x => ofO ((asI x).bind fun j => rngOf 0 j) := rfl
@[simp] theorem qevI_rng2 : evI C (.rng2 a c) = bnd (ev C a) fun x => bnd (ev C c) fun y => ofO ((asI x).bind fun i => (asI y).bind fun j => rngOf i j) := rfl
@[simp] theorem qevI_enm : evI C (.enm a) = bnd (ev C a) fun x => ofO (enmOf x) := rfl
@[simp] theorem qevI_zip : evI C (.zip a c) = bnd (ev C a) fun x => bnd (ev C c) fun y => ofO (zipOf x y) := rfl
@[simp] theorem qex_set : ex C (.set i a) = bnd (ev C a) fun d => bnd (put i (.dat d)) fun _ => ret .nx := rfl
@[simp] theorem qex_setO : ex C (.setO i a) = bnd (evO C a) fun x => bnd (put i x) fun _ => ret .nx := rfl
@[simp] theorem qex_unp : ex C (.unp t a) = bnd (ev C a) fun d => bnd (bindT t d) fun _ => ret .nx := rfl
@[simp] theorem qex_setIx : ex C (.setIx i c a) = bnd (ev C a) fun d => bnd (ownL i) fun _ => bnd (ev C c) fun y => bnd (ownL i) fun ds => bnd (ofO ((asI y).bind fun j => L2.ixN ds.length j)) fun n =>
      bnd (wr i (ds.set n d)) fun _ => ret .nx := rfl
@[simp] theorem qex_app : ex C (.app i a) = bnd (ownL i) fun _ => bnd (ev C a) fun d => bnd (ownL i) fun ds => if ds.length < lim then bnd (wr i (ds ++ [d])) fun _ => ret .nx else fail := rfl
@[simp] theorem qex_expr : ex C (.expr a) = bnd (ev C a) fun _ => ret .nx := rfl
@[simp] theorem qex_ret : ex C (.ret a) = bnd (ev C a) fun d => ret (.rt (.dat d)) := rfl
@[simp] theorem qex_retO : ex C (.retO a) = bnd (evO C a) fun x => ret (.rt x) := rfl
@[simp] theorem qex_iff : ex C (.iff a ss tt) = bnd (ev C a) fun k => bnd (ofO (asB k)) fun k => if k = true then exs C ss else exs C tt := rfl
@[simp] theorem qex_for : ex C (.for t it ss) = bnd (evI C it) fun ds => forL (fun d => bnd (bindT t d) fun _ => exs C ss) ds := rfl
@[simp] theorem qtwo_some : ∀ {ma mb : M PyData} {g : PyData → PyData → M PyData}, two (some i) ma mb g = bnd (pk i) fun _ => bnd mb fun y => bnd (pk i) fun x => g x y := fun {_ _ _} => rfl
@[simp] theorem qtwo_none : ∀ {ma mb : M PyData} {g : PyData → PyData → M PyData}, two none ma mb g = bnd ma fun x => bnd mb fun y => g x y := fun {_ _ _} => rfl
@[simp] theorem qpkO_some : ∀ {ma : M PyData}, pkO (some i) ma = pk i := fun {_} => rfl
@[simp] theorem qpkO_none : ∀ {ma : M PyData}, pkO none ma = ma := fun {_} => rfl
@[simp] theorem qbiVar_len : ∀ {r : Option Nat}, biVar .len r = r := fun {_} => rfl
@[simp] theorem qbiVar_all : ∀ {r : Option Nat}, biVar .all r = none := fun {_} => rfl
@[simp] theorem qbiVar_any : ∀ {r : Option Nat}, biVar .any r = none := fun {_} => rfl
@[simp] theorem qbiVar_tuple : ∀ {r : Option Nat}, biVar .tuple r = none := fun {_} => rfl
@[simp] theorem qbiVar_list : ∀ {r : Option Nat}, biVar .list r = none := fun {_} => rfl
@[simp] theorem qbiVar_str : ∀ {r : Option Nat}, biVar .str r = none := fun {_} => rfl
@[simp] theorem qbiVar_sorted : ∀ {r : Option Nat}, biVar .sorted r = none := fun {_} => rfl
@[simp] theorem qisVar_var : RE.isVar (.var i) = some i := rfl
@[simp] theorem qisVar_int : RE.isVar (.int n) = none := rfl
@[simp] theorem qisVar_str : RE.isVar (.str s) = none := rfl
@[simp] theorem qisVar_bool : RE.isVar (.bool b) = none := rfl
@[simp] theorem qisVar_none : RE.isVar .none = none := rfl
@[simp] theorem qisVar_glb : RE.isVar (.glb x) = none := rfl
@[simp] theorem qisVar_tup : RE.isVar (.tup es) = none := rfl
@[simp] theorem qisVar_lst : RE.isVar (.lst es) = none := rfl
@[simp] theorem qisVar_bin : RE.isVar (.bin q a c) = none := rfl
@[simp] theorem qisVar_neg : RE.isVar (.neg a) = none := rfl
@[simp] theorem qisVar_not : RE.isVar (.not a) = none := rfl
@[simp] theorem qisVar_and : RE.isVar (.and es) = none := rfl
@[simp] theorem qisVar_or : RE.isVar (.or es) = none := rfl
@[simp] theorem qisVar_cmp : RE.isVar (.cmp o a c) = none := rfl
@[simp] theorem qisVar_chain : RE.isVar (.chain o p a c d) = none := rfl
@[simp] theorem qisVar_isN : RE.isVar (.isN a) = none := rfl
@[simp] theorem qisVar_notN : RE.isVar (.notN a) = none := rfl
@[simp] theorem qisVar_ite : RE.isVar (.ite d a c) = none := rfl
@[simp] theorem qisVar_isi : RE.isVar (.isi a ty) = none := rfl
@[simp] theorem qisVar_isiT : RE.isVar (.isiT a ts) = none := rfl
@[simp] theorem qisVar_call : RE.isVar (.call f es) = none := rfl
@[simp] theorem qisVar_callIo : RE.isVar (.callIo f i es) = none := rfl
@[simp] theorem qisVar_bi : RE.isVar (.bi bi a) = none := rfl
@[simp] theorem qisVar_idx : RE.isVar (.idx a c) = none := rfl
@[simp] theorem qisVar_slTo : RE.isVar (.slTo a c) = none := rfl
@[simp] theorem qisVar_slFrom : RE.isVar (.slFrom a c) = none := rfl
@[simp] theorem qisVar_rev : RE.isVar (.rev a) = none := rfl
@[simp] theorem qisVar_lc : RE.isVar (.lc a t it own) = none := rfl
@[simp] theorem qisVar_lcIf : RE.isVar (.lcIf a t it c own) = none := rfl
@[simp] theorem qwipeR_nil : ∀ {ρ : Rho}, wipeR ρ [] = ρ := fun {_} => rfl
@[simp] theorem qwipeR_cons : ∀ {ρ : Rho}, wipeR ρ (i :: own) = (wipeR ρ own).set i none := fun {_} => rfl
@[simp] theorem qbackR_nil : ∀ {ρ ρ' : Rho}, backR ρ ρ' [] = ρ' := fun {_ _} => rfl
@[simp] theorem qbackR_cons : ∀ {ρ ρ' : Rho}, backR ρ ρ' (i :: own) = (backR ρ ρ' own).set i (ρ[i]?.join) := fun {_ _} => rfl
@[simp] theorem noOwn_def : ∀ {ρ : Rho}, noOwn ρ own = own.all fun i => match ρ[i]? with
  | some none => true
  | some (some (.dat _)) => true
  | _ => false := fun {_} => rfl
@[simp] theorem startR_def : ∀ {g : Fn} {as : List Vl}, startR g as = as.map some ++ List.replicate (g.sl - as.length) none := fun {_ _} => rfl
end
end
end Pb
end

section
set_option Elab.async false
set_option linter.all false
set_option maxRecDepth 100000
namespace Pb
open PySem
/-- thing, low, high -/
def f_is_from : Fn := ⟨3, 3, false,
  (.cons (.ret (.and (.cons (.isi (.var 0) .int) (.cons (.not (.isi (.var 0) .bool)) (.cons (.chain .le .le (.var 1) (.var 0) (.var 2)) .nil)))))
  .nil)⟩
/-- thing, sign -/
def f_is_name : Fn := ⟨1, 2, false,
  (.cons (.ret (.and (.cons (.isi (.var 0) .str) (.cons (.chain .le .le (.int 1) (.bi .len (.var 0)) (.int 8)) (.cons (.bi .all (.lc (.cmp .isin (.var 1) (.glb "LETTERS")) (.nm 1) (.seq (.var 0)) [1])) .nil)))))
  .nil)⟩
/-- thing -/
def f_is_worth : Fn := ⟨1, 1, false,
  (.cons (.ret (.or (.cons (.call "is_name" (.cons (.var 0) .nil)) (.cons (.call "is_from" (.cons (.var 0) (.cons (.neg (.glb "MOST_WORTH")) (.cons (.glb "MOST_WORTH") .nil)))) .nil))))
  .nil)⟩
/-- thing -/
def f_is_pair : Fn := ⟨1, 1, false,
  (.cons (.ret (.and (.cons (.isi (.var 0) .tuple) (.cons (.cmp .eq (.bi .len (.var 0)) (.int 2)) .nil))))
  .nil)⟩
/-- things, one, other -/
def f_is_rising : Fn := ⟨1, 3, false,
  (.cons (.ret (.bi .all (.lc (.cmp .lt (.var 1) (.var 2)) (.tp (.cons (.nm 1) (.cons (.nm 2) .nil))) (.zip (.var 0) (.slFrom (.var 0) (.int 1))) [1, 2])))
  .nil)⟩
/-- thing, one -/
def f_are_columns : Fn := ⟨1, 2, false,
  (.cons (.iff (.or (.cons (.not (.isi (.var 0) .tuple)) (.cons (.not (.chain .le .le (.int 1) (.bi .len (.var 0)) (.glb "MOST_COLUMNS"))) .nil))) (.cons (.ret (.bool false))
  .nil) .nil)
  (.cons (.ret (.and (.cons (.bi .all (.lc (.call "is_name" (.cons (.var 1) .nil)) (.nm 1) (.seq (.var 0)) [1])) (.cons (.call "is_rising" (.cons (.var 0) .nil)) .nil))))
  .nil))⟩
/-- columns, thing, worth -/
def f_is_row : Fn := ⟨2, 3, false,
  (.cons (.iff (.or (.cons (.not (.isi (.var 1) .tuple)) (.cons (.cmp .ne (.bi .len (.var 1)) (.bi .len (.var 0))) .nil))) (.cons (.ret (.bool false))
  .nil) .nil)
  (.cons (.ret (.bi .all (.lc (.or (.cons (.isN (.var 2)) (.cons (.call "is_worth" (.cons (.var 2) .nil)) .nil))) (.nm 2) (.seq (.var 1)) [2])))
  .nil))⟩
/-- thing, rows, row -/
def f_is_table : Fn := ⟨1, 3, false,
  (.cons (.iff (.or (.cons (.not (.call "is_pair" (.cons (.var 0) .nil))) (.cons (.not (.call "are_columns" (.cons (.idx (.var 0) (.int 0)) .nil))) .nil))) (.cons (.ret (.bool false))
  .nil) .nil)
  (.cons (.set 1 (.idx (.var 0) (.int 1)))
  (.cons (.iff (.or (.cons (.not (.isi (.var 1) .tuple)) (.cons (.cmp .gt (.bi .len (.var 1)) (.glb "MOST_ROWS")) (.cons (.not (.bi .all (.lc (.call "is_pair" (.cons (.var 2) .nil)) (.nm 2) (.seq (.var 1)) [2]))) .nil)))) (.cons (.ret (.bool false))
  .nil) .nil)
  (.cons (.iff (.not (.bi .all (.lc (.and (.cons (.call "is_from" (.cons (.idx (.var 2) (.int 0)) (.cons (.int 0) (.cons (.glb "LAST_ID") .nil)))) (.cons (.call "is_row" (.cons (.idx (.var 0) (.int 0)) (.cons (.idx (.var 2) (.int 1)) .nil))) .nil))) (.nm 2) (.seq (.var 1)) [2]))) (.cons (.ret (.bool false))
  .nil) .nil)
  (.cons (.ret (.call "is_rising" (.cons (.lc (.idx (.var 2) (.int 0)) (.nm 2) (.seq (.var 1)) [2]) .nil)))
  .nil)))))⟩
/-- thing, one, name, table -/
def f_are_houses : Fn := ⟨1, 4, false,
  (.cons (.iff (.or (.cons (.not (.isi (.var 0) .tuple)) (.cons (.not (.chain .le .le (.int 1) (.bi .len (.var 0)) (.glb "MOST_HOUSES"))) (.cons (.not (.bi .all (.lc (.call "is_pair" (.cons (.var 1) .nil)) (.nm 1) (.seq (.var 0)) [1]))) .nil)))) (.cons (.ret (.bool false))
  .nil) .nil)
  (.cons (.iff (.not (.bi .all (.lc (.and (.cons (.call "is_name" (.cons (.var 2) .nil)) (.cons (.call "is_table" (.cons (.var 3) .nil)) .nil))) (.tp (.cons (.nm 2) (.cons (.nm 3) .nil))) (.seq (.var 0)) [2, 3]))) (.cons (.ret (.bool false))
  .nil) .nil)
  (.cons (.ret (.call "is_rising" (.cons (.lc (.idx (.var 1) (.int 0)) (.nm 1) (.seq (.var 0)) [1]) .nil)))
  .nil)))⟩
/-- cell_, turn -/
def f__law_deck : Fn := ⟨2, 2, false,
  (.cons (.iff (.cmp .ge (.var 0) (.bin .pow (.int 10) (.int 18))) (.cons (.retO (.lst (.cons (.bin .sub (.var 0) (.bin .pow (.int 10) (.int 18))) (.cons (.bin .mod (.var 0) (.int 2147483579)) (.cons (.var 1) .nil)))))
  .nil) .nil)
  (.cons (.retO (.lst (.cons (.int 0) (.cons (.bin .mod (.var 0) (.int 2147483579)) (.cons (.var 1) .nil)))))
  .nil))⟩
/-- deck, size, found, number -/
def f__law_pick : Fn := ⟨2, 4, true,
  (.cons (.iff (.cmp .gt (.idx (.var 0) (.int 0)) (.int 1)) (.cons (.set 2 (.bin .mod (.idx (.var 0) (.int 0)) (.var 1)))
  (.cons (.setIx 0 (.int 0) (.bin .fdiv (.idx (.var 0) (.int 0)) (.var 1)))
  (.cons (.ret (.var 2))
  .nil))) .nil)
  (.cons (.setIx 0 (.int 2) (.bin .add (.idx (.var 0) (.int 2)) (.int 1)))
  (.cons (.set 3 (.bin .mod (.bin .pow (.bin .add (.idx (.var 0) (.int 1)) (.bin .mul (.int 15485867) (.idx (.var 0) (.int 2)))) (.int 5)) (.int 2147483647)))
  (.cons (.set 2 (.bin .fdiv (.bin .mod (.bin .pow (.bin .add (.var 3) (.bin .mul (.int 7919) (.idx (.var 0) (.int 2)))) (.int 3)) (.int 2147483629)) (.int 32)))
  (.cons (.ret (.bin .mod (.var 2) (.var 1)))
  .nil)))))⟩
/-- thing -/
def f__law_whole : Fn := ⟨1, 1, false,
  (.cons (.ret (.and (.cons (.isi (.var 0) .int) (.cons (.not (.isi (.var 0) .bool)) .nil))))
  .nil)⟩
/-- deck, some -/
def f__law_one : Fn := ⟨2, 2, true,
  (.cons (.ret (.idx (.var 1) (.callIo "_law_pick" 0 (.cons (.bi .len (.var 1)) .nil))))
  .nil)⟩
/-- thing -/
def f__law_sort : Fn := ⟨1, 1, false,
  (.cons (.iff (.isi (.var 0) .bool) (.cons (.ret (.int 1))
  .nil) .nil)
  (.cons (.iff (.isi (.var 0) .int) (.cons (.ret (.int 2))
  .nil) .nil)
  (.cons (.iff (.isi (.var 0) .str) (.cons (.ret (.int 3))
  .nil) .nil)
  (.cons (.iff (.isi (.var 0) .list) (.cons (.ret (.int 4))
  .nil) .nil)
  (.cons (.ret (.ite (.isi (.var 0) .tuple) (.int 5) (.int 6)))
  .nil)))))⟩
/-- told, due, k, part -/
def f__law_same : Fn := ⟨2, 4, false,
  (.cons (.iff (.cmp .ne (.call "_law_sort" (.cons (.var 0) .nil)) (.call "_law_sort" (.cons (.var 1) .nil))) (.cons (.ret (.bool false))
  .nil) .nil)
  (.cons (.iff (.and (.cons (.cmp .gt (.call "_law_sort" (.cons (.var 0) .nil)) (.int 3)) (.cons (.cmp .lt (.call "_law_sort" (.cons (.var 0) .nil)) (.int 6)) .nil))) (.cons (.iff (.cmp .ne (.bi .len (.var 0)) (.bi .len (.var 1))) (.cons (.ret (.bool false))
  .nil) .nil)
  (.cons (.ret (.cmp .eq (.lcIf (.var 2) (.tp (.cons (.nm 2) (.cons (.nm 3) .nil))) (.enm (.var 0)) (.not (.call "_law_same" (.cons (.var 3) (.cons (.idx (.var 1) (.var 2)) .nil)))) [2, 3]) (.lst .nil)))
  .nil)) .nil)
  (.cons (.ret (.cmp .eq (.var 0) (.var 1)))
  .nil)))⟩
/-- deck, some -/
def f__law_odd : Fn := ⟨1, 2, true,
  (.cons (.set 1 (.lst (.cons .none (.cons (.bool true) (.cons (.str "") (.cons (.str "a") (.cons (.tup .nil) (.cons (.lst .nil) (.cons (.tup (.cons (.tup .nil) .nil)) (.cons (.int 7) (.cons (.neg (.int 1)) (.cons (.tup (.cons (.str "zz") (.cons (.str "a") .nil))) (.cons (.tup (.cons (.str "zz") (.cons (.int 1) .nil))) (.cons (.bin .pow (.int 10) (.int 30)) (.cons (.tup (.cons (.str "ann") (.cons (.bool true) .nil))) (.cons (.tup (.cons (.int 1) (.cons (.int 2) .nil))) (.cons (.str "A") .nil)))))))))))))))))
  (.cons (.ret (.callIo "_law_one" 0 (.cons (.var 1) .nil)))
  .nil))⟩
/-- deck, thing, rows, at, other -/
def f__law_spoilt : Fn := ⟨2, 5, true,
  (.cons (.iff (.and (.cons (.isiT (.var 1) [.tuple, .list]) (.cons (.cmp .gt (.bi .len (.var 1)) (.int 0)) (.cons (.cmp .gt (.callIo "_law_pick" 0 (.cons (.int 5) .nil)) (.int 0)) .nil)))) (.cons (.setO 2 (.bi .list (.var 1)))
  (.cons (.set 3 (.callIo "_law_pick" 0 (.cons (.bi .len (.var 2)) .nil)))
  (.cons (.setIx 2 (.var 3) (.callIo "_law_spoilt" 0 (.cons (.idx (.var 2) (.var 3)) .nil)))
  (.cons (.ret (.ite (.isi (.var 1) .tuple) (.bi .tuple (.var 2)) (.var 2)))
  .nil)))) .nil)
  (.cons (.iff (.isiT (.var 1) [.tuple, .list]) (.cons (.set 4 (.ite (.isi (.var 1) .tuple) (.bi .list (.var 1)) (.bi .tuple (.var 1))))
  (.cons (.ret (.idx (.lst (.cons (.var 4) (.cons (.bin .add (.var 1) (.slTo (.var 1) (.int 1))) (.cons (.slFrom (.var 1) (.int 1)) (.cons (.rev (.var 1)) (.cons .none .nil)))))) (.callIo "_law_pick" 0 (.cons (.int 5) .nil))))
  .nil)) .nil)
  (.cons (.iff (.isi (.var 1) .int) (.cons (.ret (.idx (.lst (.cons (.bin .add (.var 1) (.int 1)) (.cons (.bin .sub (.var 1) (.int 1)) (.cons (.bool true) (.cons .none (.cons (.int 1000) (.cons (.bin .add (.bin .pow (.int 10) (.int 6)) (.int 1)) (.cons (.bi .str (.var 1)) .nil)))))))) (.callIo "_law_pick" 0 (.cons (.int 7) .nil))))
  .nil) .nil)
  (.cons (.ret (.idx (.lst (.cons .none (.cons (.int 7) (.cons (.str "n") (.cons (.str "") (.cons (.str "A") (.cons (.str "abcdefghi") (.cons (.str "first") (.cons (.str "is") .nil))))))))) (.callIo "_law_pick" 0 (.cons (.int 8) .nil))))
  .nil))))⟩
/-- deck -/
def f__law_worth : Fn := ⟨1, 1, true,
  (.cons (.ret (.callIo "_law_one" 0 (.cons (.lst (.cons .none (.cons (.int 1) (.cons (.int 2) (.cons (.int 3) (.cons (.int 1) (.cons (.int 2) (.cons (.str "red") (.cons (.str "blue") (.cons (.bin .sub (.callIo "_law_pick" 0 (.cons (.int 2001) .nil)) (.int 1000)) .nil)))))))))) .nil)))
  .nil)⟩
/-- deck, most, rows_most, found, name, columns, rows, number, one -/
def f__law_houses : Fn := ⟨3, 9, true,
  (.cons (.setO 3 (.lst .nil))
  (.cons (.for (.nm 4) (.seq (.slTo (.lst (.cons (.str "ann") (.cons (.str "bo") (.cons (.str "cy") (.cons (.str "dee") .nil))))) (.bin .add (.int 1) (.callIo "_law_pick" 0 (.cons (.var 1) .nil))))) (.cons (.set 5 (.bi .tuple (.lcIf (.var 8) (.nm 8) (.seq (.lst (.cons (.str "a") (.cons (.str "b") (.cons (.str "c") (.cons (.str "d") .nil)))))) (.cmp .gt (.callIo "_law_pick" 0 (.cons (.int 3) .nil)) (.int 0)) [8])))
  (.cons (.set 5 (.ite (.cmp .ne (.var 5) (.tup .nil)) (.var 5) (.tup (.cons (.str "a") .nil))))
  (.cons (.setO 6 (.lst .nil))
  (.cons (.for (.nm 7) (.rng (.callIo "_law_pick" 0 (.cons (.bin .add (.var 2) (.int 1)) .nil))) (.cons (.app 6 (.tup (.cons (.bin .add (.bin .mul (.int 3) (.var 7)) (.callIo "_law_pick" 0 (.cons (.int 3) .nil))) (.cons (.bi .tuple (.lc (.callIo "_law_worth" 0 .nil) (.nm 8) (.seq (.var 5)) [8])) .nil))))
  .nil))
  (.cons (.app 3 (.tup (.cons (.var 4) (.cons (.tup (.cons (.var 5) (.cons (.bi .tuple (.var 6)) .nil))) .nil))))
  .nil))))))
  (.cons (.ret (.bi .tuple (.var 3)))
  .nil)))⟩
/-- thing, sign -/
def f__law_is_name : Fn := ⟨1, 2, false,
  (.cons (.iff (.or (.cons (.not (.isi (.var 0) .str)) (.cons (.not (.chain .le .le (.int 1) (.bi .len (.var 0)) (.int 8))) .nil))) (.cons (.ret (.bool false))
  .nil) .nil)
  (.cons (.ret (.cmp .eq (.lcIf (.var 1) (.nm 1) (.seq (.var 0)) (.not (.chain .le .le (.str "a") (.var 1) (.str "z"))) [1]) (.lst .nil)))
  .nil))⟩
/-- some, k -/
def f__law_rises : Fn := ⟨1, 2, false,
  (.cons (.ret (.cmp .eq (.lcIf (.var 1) (.nm 1) (.rng2 (.int 1) (.bi .len (.var 0))) (.cmp .ge (.idx (.var 0) (.bin .sub (.var 1) (.int 1))) (.idx (.var 0) (.var 1))) [1]) (.lst .nil)))
  .nil)⟩
/-- thing, most, one -/
def f__law_are_pairs : Fn := ⟨2, 3, false,
  (.cons (.iff (.or (.cons (.not (.isi (.var 0) .tuple)) (.cons (.cmp .gt (.bi .len (.var 0)) (.var 1)) .nil))) (.cons (.ret (.bool false))
  .nil) .nil)
  (.cons (.ret (.cmp .eq (.lcIf (.var 2) (.nm 2) (.seq (.var 0)) (.or (.cons (.not (.isi (.var 2) .tuple)) (.cons (.cmp .ne (.bi .len (.var 2)) (.int 2)) .nil))) [2]) (.lst .nil)))
  .nil))⟩
/-- thing -/
def f__law_is_worth : Fn := ⟨1, 1, false,
  (.cons (.ret (.or (.cons (.call "_law_is_name" (.cons (.var 0) .nil)) (.cons (.and (.cons (.call "_law_whole" (.cons (.var 0) .nil)) (.cons (.chain .le .le (.bin .sub (.int 0) (.bin .pow (.int 10) (.int 6))) (.var 0) (.bin .pow (.int 10) (.int 6))) .nil))) .nil))))
  .nil)⟩
/-- thing, columns, rows, one, number, row, bad, worth -/
def f__law_is_table : Fn := ⟨1, 8, false,
  (.cons (.iff (.or (.cons (.not (.isi (.var 0) .tuple)) (.cons (.cmp .ne (.bi .len (.var 0)) (.int 2)) (.cons (.not (.isi (.idx (.var 0) (.int 0)) .tuple)) .nil)))) (.cons (.ret (.bool false))
  .nil) .nil)
  (.cons (.unp (.tp (.cons (.nm 1) (.cons (.nm 2) .nil))) (.var 0))
  (.cons (.iff (.or (.cons (.not (.chain .le .le (.int 1) (.bi .len (.var 1)) (.int 5))) (.cons (.cmp .ne (.lcIf (.var 3) (.nm 3) (.seq (.var 1)) (.not (.call "_law_is_name" (.cons (.var 3) .nil))) [3]) (.lst .nil)) .nil))) (.cons (.ret (.bool false))
  .nil) .nil)
  (.cons (.iff (.or (.cons (.not (.call "_law_rises" (.cons (.var 1) .nil))) (.cons (.not (.call "_law_are_pairs" (.cons (.var 2) (.cons (.int 8) .nil)))) .nil))) (.cons (.ret (.bool false))
  .nil) .nil)
  (.cons (.for (.tp (.cons (.nm 4) (.cons (.nm 5) .nil))) (.seq (.var 2)) (.cons (.iff (.or (.cons (.not (.call "_law_whole" (.cons (.var 4) .nil))) (.cons (.not (.chain .le .le (.int 0) (.var 4) (.int 999))) (.cons (.not (.isi (.var 5) .tuple)) .nil)))) (.cons (.ret (.bool false))
  .nil) .nil)
  (.cons (.set 6 (.lcIf (.var 7) (.nm 7) (.seq (.var 5)) (.and (.cons (.notN (.var 7)) (.cons (.not (.call "_law_is_worth" (.cons (.var 7) .nil))) .nil))) [7]))
  (.cons (.iff (.or (.cons (.cmp .ne (.bi .len (.var 5)) (.bi .len (.var 1))) (.cons (.cmp .ne (.var 6) (.lst .nil)) .nil))) (.cons (.ret (.bool false))
  .nil) .nil)
  .nil))))
  (.cons (.ret (.call "_law_rises" (.cons (.lc (.idx (.var 5) (.int 0)) (.nm 5) (.seq (.var 2)) [5]) .nil)))
  .nil))))))⟩
/-- thing, one -/
def f__law_good : Fn := ⟨1, 2, false,
  (.cons (.iff (.or (.cons (.not (.call "_law_are_pairs" (.cons (.var 0) (.cons (.int 4) .nil)))) (.cons (.cmp .eq (.var 0) (.tup .nil)) .nil))) (.cons (.ret (.bool false))
  .nil) .nil)
  (.cons (.iff (.cmp .ne (.lcIf (.var 1) (.nm 1) (.seq (.var 0)) (.or (.cons (.not (.call "_law_is_name" (.cons (.idx (.var 1) (.int 0)) .nil))) (.cons (.not (.call "_law_is_table" (.cons (.idx (.var 1) (.int 1)) .nil))) .nil))) [1]) (.lst .nil)) (.cons (.ret (.bool false))
  .nil) .nil)
  (.cons (.ret (.call "_law_rises" (.cons (.lc (.idx (.var 1) (.int 0)) (.nm 1) (.seq (.var 0)) [1]) .nil)))
  .nil)))⟩
/-- deck, rows, k, columns, some, names, name, worth, number -/
def f__law_written : Fn := ⟨1, 9, true,
  (.cons (.set 1 (.bi .tuple (.lc (.tup (.cons (.var 2) (.cons (.tup (.cons (.var 2) (.cons .none .nil))) .nil))) (.nm 2) (.rng (.bin .add (.int 8) (.callIo "_law_pick" 0 (.cons (.int 2) .nil)))) [2])))
  (.cons (.set 3 (.slTo (.tup (.cons (.str "a") (.cons (.str "b") (.cons (.str "c") (.cons (.str "d") (.cons (.str "e") (.cons (.str "f") .nil))))))) (.bin .add (.int 5) (.callIo "_law_pick" 0 (.cons (.int 2) .nil)))))
  (.cons (.setO 4 (.lst (.cons (.tup (.cons (.tup (.cons (.str "a") (.cons (.tup (.cons (.tup (.cons (.str "a") (.cons (.str "b") .nil))) (.cons (.var 1) .nil))) .nil))) .nil)) (.cons (.tup (.cons (.tup (.cons (.str "a") (.cons (.tup (.cons (.var 3) (.cons (.tup .nil) .nil))) .nil))) .nil)) .nil))))
  (.cons (.set 5 (.slTo (.lst (.cons (.str "a") (.cons (.str "b") (.cons (.str "c") (.cons (.str "d") (.cons (.str "e") .nil)))))) (.bin .add (.int 4) (.callIo "_law_pick" 0 (.cons (.int 2) .nil)))))
  (.cons (.app 4 (.bi .tuple (.lc (.tup (.cons (.var 6) (.cons (.tup (.cons (.tup (.cons (.str "a") .nil)) (.cons (.tup .nil) .nil))) .nil))) (.nm 6) (.seq (.var 5)) [6])))
  (.cons (.for (.nm 7) (.seq (.lst (.cons (.bin .pow (.int 10) (.int 6)) (.cons (.bin .add (.bin .pow (.int 10) (.int 6)) (.int 1)) (.cons (.bin .sub (.int 0) (.bin .pow (.int 10) (.int 6))) (.cons (.bin .sub (.bin .sub (.int 0) (.bin .pow (.int 10) (.int 6))) (.int 1)) (.cons (.str "") (.cons (.str "abcdefgh") (.cons (.str "abcdefghi") (.cons (.bool true) (.cons (.str "a1") .nil))))))))))) (.cons (.app 4 (.tup (.cons (.tup (.cons (.str "a") (.cons (.tup (.cons (.tup (.cons (.str "a") .nil)) (.cons (.tup (.cons (.tup (.cons (.int 0) (.cons (.tup (.cons (.var 7) .nil)) .nil))) .nil)) .nil))) .nil))) .nil)))
  .nil))
  (.cons (.for (.nm 8) (.seq (.lst (.cons (.int 0) (.cons (.int 999) (.cons (.int 1000) (.cons (.neg (.int 1)) (.cons (.bool true) (.cons .none .nil)))))))) (.cons (.app 4 (.tup (.cons (.tup (.cons (.str "a") (.cons (.tup (.cons (.tup (.cons (.str "a") .nil)) (.cons (.tup (.cons (.tup (.cons (.var 8) (.cons (.tup (.cons (.int 1) .nil)) .nil))) .nil)) .nil))) .nil))) .nil)))
  .nil))
  (.cons (.ret (.var 4))
  .nil))))))))⟩
/-- script, cell_, deck, good, bent, some, thing, k -/
def f_law : Fn := ⟨1, 8, false,
  (.cons (.for (.nm 1) (.seq (.slTo (.bin .add (.lst (.cons (.int 0) .nil)) (.var 0)) (.int 10))) (.cons (.setO 2 (.call "_law_deck" (.cons (.var 1) (.cons (.int 1) .nil))))
  (.cons (.set 3 (.callIo "_law_houses" 2 (.cons (.int 4) (.cons (.int 5) .nil))))
  (.cons (.set 4 (.callIo "_law_spoilt" 2 (.cons (.var 3) .nil)))
  (.cons (.set 5 (.lst (.cons (.var 3) (.cons (.var 4) (.cons (.callIo "_law_spoilt" 2 (.cons (.var 4) .nil)) (.cons (.rev (.var 3)) (.cons (.bin .add (.var 3) (.slTo (.var 3) (.int 1))) (.cons (.bi .list (.var 3)) (.cons (.tup .nil) (.cons .none (.cons (.callIo "_law_odd" 2 .nil) .nil)))))))))))
  (.cons (.for (.nm 6) (.seq (.bin .add (.bin .add (.var 5) (.lc (.callIo "_law_spoilt" 2 (.cons (.var 3) .nil)) (.nm 7) (.rng (.int 4)) [7])) (.callIo "_law_written" 2 .nil))) (.cons (.iff (.not (.call "_law_same" (.cons (.call "are_houses" (.cons (.var 6) .nil)) (.cons (.call "_law_good" (.cons (.var 6) .nil)) .nil)))) (.cons (.ret (.bool false))
  .nil) .nil)
  .nil))
  .nil))))))
  (.cons (.ret (.bool true))
  .nil))⟩
def fnTab : List (Str × Fn) := [("is_from", f_is_from), ("is_name", f_is_name), ("is_worth", f_is_worth), ("is_pair", f_is_pair), ("is_rising", f_is_rising), ("are_columns", f_are_columns), ("is_row", f_is_row), ("is_table", f_is_table), ("are_houses", f_are_houses), ("_law_deck", f__law_deck), ("_law_pick", f__law_pick), ("_law_whole", f__law_whole), ("_law_one", f__law_one), ("_law_sort", f__law_sort), ("_law_same", f__law_same), ("_law_odd", f__law_odd), ("_law_spoilt", f__law_spoilt), ("_law_worth", f__law_worth), ("_law_houses", f__law_houses), ("_law_is_name", f__law_is_name), ("_law_rises", f__law_rises), ("_law_are_pairs", f__law_are_pairs), ("_law_is_worth", f__law_is_worth), ("_law_is_table", f__law_is_table), ("_law_good", f__law_good), ("_law_written", f__law_written), ("law", f_law)]
def glTab : List (Str × PyData) := [("LETTERS", .str "abcdefghijklmnopqrstuvwxyz"), ("MOST_COLUMNS", .int 5), ("MOST_ROWS", .int 8), ("MOST_HOUSES", .int 4), ("LAST_ID", .int 999), ("MOST_WORTH", .int 1000000)]
def prg : Prg := ⟨fun f => fnTab.lookup f, fun x => glTab.lookup x⟩
theorem fn_is_from : prg.fns "is_from" = some f_is_from := by rfl
theorem fn_is_name : prg.fns "is_name" = some f_is_name := by rfl
theorem fn_is_worth : prg.fns "is_worth" = some f_is_worth := by rfl
theorem fn_is_pair : prg.fns "is_pair" = some f_is_pair := by rfl
theorem fn_is_rising : prg.fns "is_rising" = some f_is_rising := by rfl
theorem fn_are_columns : prg.fns "are_columns" = some f_are_columns := by rfl
theorem fn_is_row : prg.fns "is_row" = some f_is_row := by rfl
theorem fn_is_table : prg.fns "is_table" = some f_is_table := by rfl
theorem fn_are_houses : prg.fns "are_houses" = some f_are_houses := by rfl
theorem fn__law_deck : prg.fns "_law_deck" = some f__law_deck := by rfl
theorem fn__law_pick : prg.fns "_law_pick" = some f__law_pick := by rfl
theorem fn__law_whole : prg.fns "_law_whole" = some f__law_whole := by rfl
theorem fn__law_one : prg.fns "_law_one" = some f__law_one := by rfl
theorem fn__law_sort : prg.fns "_law_sort" = some f__law_sort := by rfl
theorem fn__law_same : prg.fns "_law_same" = some f__law_same := by rfl
theorem fn__law_odd : prg.fns "_law_odd" = some f__law_odd := by rfl
theorem fn__law_spoilt : prg.fns "_law_spoilt" = some f__law_spoilt := by rfl
theorem fn__law_worth : prg.fns "_law_worth" = some f__law_worth := by rfl
theorem fn__law_houses : prg.fns "_law_houses" = some f__law_houses := by rfl
theorem fn__law_is_name : prg.fns "_law_is_name" = some f__law_is_name := by rfl
theorem fn__law_rises : prg.fns "_law_rises" = some f__law_rises := by rfl
theorem fn__law_are_pairs : prg.fns "_law_are_pairs" = some f__law_are_pairs := by rfl
theorem fn__law_is_worth : prg.fns "_law_is_worth" = some f__law_is_worth := by rfl
theorem fn__law_is_table : prg.fns "_law_is_table" = some f__law_is_table := by rfl
theorem fn__law_good : prg.fns "_law_good" = some f__law_good := by rfl
theorem fn__law_written : prg.fns "_law_written" = some f__law_written := by rfl
theorem fn_law : prg.fns "law" = some f_law := by rfl
@[simp] theorem gl_LETTERS : prg.gls "LETTERS" = some (.str "abcdefghijklmnopqrstuvwxyz") := by rfl
@[simp] theorem gl_MOST_COLUMNS : prg.gls "MOST_COLUMNS" = some (.int 5) := by rfl
@[simp] theorem gl_MOST_ROWS : prg.gls "MOST_ROWS" = some (.int 8) := by rfl
@[simp] theorem gl_MOST_HOUSES : prg.gls "MOST_HOUSES" = some (.int 4) := by rfl
@[simp] theorem gl_LAST_ID : prg.gls "LAST_ID" = some (.int 999) := by rfl
@[simp] theorem gl_MOST_WORTH : prg.gls "MOST_WORTH" = some (.int 1000000) := by rfl
end Pb
end

section
set_option Elab.async false
set_option linter.all false
set_option maxRecDepth 100000
/-! # What the checks of the houses come to -/
namespace Pb
open PySem
def fromB (lo hi : Int) : PyData → Bool
  | .int i => decide (lo ≤ i) && decide (i ≤ hi)
  | _ => false
def nameB : PyData → Bool
  | .str x => decide (1 ≤ x.length) && decide (x.length ≤ 8) && x.cps.toList.all fun c => decide (97 ≤ c) && decide (c ≤ 122)
  | _ => false
/-- data that no check stumbles over -/
def okD : PyData → Bool
  | .str x => decide (x.length ≤ lim)
  | .dict _ => false
  | _ => true
theorem okD_plain {d : PyData} (h : okD d = true) : plainB d = true := by cases d <;> first | rfl | cases h
@[simp] theorem r_is_from {k : Nat} {d : PyData} {lo hi : Int} {Q : Vl → Slt → Prop} (h : okD d = true) : fnR (prg.at (k + 1)) "is_from" [.dat d, .dat (.int lo), .dat (.int hi)] Q ↔ Q (.dat (.bool (fromB lo hi d))) none := by
  refine fnR_iff ((fnR_run fn_is_from rfl).mpr ?_)
  cases d <;> simp [-List.all_eq_true, -List.any_eq_true, -List.all_eq_false, -List.any_eq_false, f_is_from, fromB]
  · split <;> rename_i h <;> simp [-List.all_eq_true, -List.any_eq_true, -List.all_eq_false, -List.any_eq_false, h]
  · cases h
theorem letters_mem (c : Nat) : c ∈ (Str.ofString "abcdefghijklmnopqrstuvwxyz").cps ↔ 97 ≤ c ∧ c ≤ 122 := by
  rw [← Array.mem_toList_iff, show (Str.ofString "abcdefghijklmnopqrstuvwxyz").cps.toList = [97, 98, 99, 100, 101, 102, 103, 104, 105, 106, 107, 108, 109, 110, 111, 112, 113, 114, 115, 116, 117, 118, 119, 120, 121, 122] by decide +kernel]
  simp [-List.all_eq_true, -List.any_eq_true, -List.all_eq_false, -List.any_eq_false]
  omega
/-- one sign of a text -/
def signB (p : Nat → Bool) : PyData → Bool
  | .str x => match x.cps.toList with
    | [c] => p c
    | _ => false
  | _ => false
theorem signs_all (p : Nat → Bool) (x : Str) : ((x.cps.toList.map fun c => PyData.str ⟨#[c]⟩).all (signB p)) = x.cps.toList.all p := by
  rw [List.all_map]
  rfl
@[simp] theorem r_is_name {k : Nat} {d : PyData} {Q : Vl → Slt → Prop} (h : okD d = true) : fnR (prg.at (k + 1)) "is_name" [.dat d] Q ↔ Q (.dat (.bool (nameB d))) none := by
  refine fnR_iff ((fnR_run fn_is_name rfl).mpr ?_)
  cases d <;> simp [-List.all_eq_true, -List.any_eq_true, -List.all_eq_false, -List.any_eq_false, f_is_name]
  case dict => cases h
  case str x =>
    have h' : x.length ≤ lim := of_decide_eq_true h
    simp [-List.all_eq_true, -List.any_eq_true, -List.all_eq_false, -List.any_eq_false, h']
    split
    · rename_i h1
      split
      · rename_i h2
        refine wp_lcMap (fun d => .bool (signB (fun c => decide (97 ≤ c) && decide (c ≤ 122)) d)) (by simp [-List.all_eq_true, -List.any_eq_true, -List.all_eq_false, -List.any_eq_false]) (fun d hd => ?_) ?_
        · obtain ⟨c, _, rfl⟩ := List.mem_map.mp hd
          simp [-List.all_eq_true, -List.any_eq_true, -List.all_eq_false, -List.any_eq_false, signB, letters_mem]
        · have e1 : 1 ≤ x.length := by omega
          have e2 : x.length ≤ 8 := by omega
          simp only [wp_some, opAll_map, asB_bool, Option.map_some, signs_all, wp_ret, seqQ_rt, outQ_rt, backIo_f, bkQ_some, nameB, e1, e2, decide_true, Bool.and_self, Bool.true_and, and_self]
      · rename_i h2
        have e2 : ¬ x.length ≤ 8 := by omega
        simp [-List.all_eq_true, -List.any_eq_true, -List.all_eq_false, -List.any_eq_false, nameB, e2]
    · rename_i h1
      have e1 : x.length = 0 := by omega
      simp [-List.all_eq_true, -List.any_eq_true, -List.all_eq_false, -List.any_eq_false, nameB, e1]
  all_goals rfl
def worthB (d : PyData) : Bool := nameB d || fromB (-1000000) 1000000 d
@[simp] theorem r_is_worth {k : Nat} {d : PyData} {Q : Vl → Slt → Prop} (h : okD d = true) : fnR (prg.at (k + 2)) "is_worth" [.dat d] Q ↔ Q (.dat (.bool (worthB d))) none := by
  refine fnR_iff ((fnR_run fn_is_worth rfl).mpr ?_)
  simp [-List.all_eq_true, -List.any_eq_true, -List.all_eq_false, -List.any_eq_false, f_is_worth, h, worthB]
  cases nameB d <;> simp [-List.all_eq_true, -List.any_eq_true, -List.all_eq_false, -List.any_eq_false]
def pairB : PyData → Bool
  | .tuple l => decide (l.length = 2)
  | _ => false
@[simp] theorem r_is_pair {k : Nat} {d : PyData} {Q : Vl → Slt → Prop} (h : okD d = true) : fnR (prg.at (k + 1)) "is_pair" [.dat d] Q ↔ Q (.dat (.bool (pairB d))) none := by
  refine fnR_iff ((fnR_run fn_is_pair rfl).mpr ?_)
  cases d <;> simp [-List.all_eq_true, -List.any_eq_true, -List.all_eq_false, -List.any_eq_false, f_is_pair, pairB]
  · rename_i l
    by_cases e : l.length = 2 <;> simp [-List.all_eq_true, -List.any_eq_true, -List.all_eq_false, -List.any_eq_false, e]
    omega
  · cases h
/-- two that are compared: the first is less -/
def ltB : PyData → PyData → Bool
  | .int i, .int j => decide (i < j)
  | .str x, .str y => decide (x.cps.toList < y.cps.toList)
  | _, _ => false
def risB : List PyData → Bool
  | [] => true
  | a :: r => (match r with | [] => true | b :: _ => ltB a b) && risB r
/-- all of one kind that can be told apart -/
def kind : PyData → Nat
  | .int _ => 1
  | .str _ => 2
  | _ => 0
theorem ltD_kind {n : Nat} {a b : PyData} (hn : 0 < n) (ha : kind a = n) (hb : kind b = n) : opCmp .lt a b = some (ltB a b) ∧ opCmp .ge a b = some (!ltB a b) := by
  cases a <;> cases b <;> simp [-List.all_eq_true, -List.any_eq_true, -List.all_eq_false, -List.any_eq_false, kind] at ha hb <;> first | omega | skip
  · refine ⟨rfl, ?_⟩
    simp [-List.all_eq_true, -List.any_eq_true, -List.all_eq_false, -List.any_eq_false, opCmp, geD, ltB, ← Int.not_lt]
  · exact ⟨rfl, rfl⟩
theorem zip_ris : ∀ l : List PyData, ((zipL l l.tail).all fun d => match d with | .tuple [a, b] => ltB a b | _ => true) = risB l
  | [] => rfl
  | [a] => rfl
  | a :: b :: r => by
    have ih := zip_ris (b :: r)
    simp only [List.tail_cons, risB] at ih ⊢
    simp only [zipL, List.all_cons]
    rw [← ih]
theorem zip_mem (P : PyData → Prop) : ∀ {l m : List PyData}, (∀ x ∈ l, P x) → (∀ x ∈ m, P x) → ∀ d ∈ zipL l m, ∃ a b, d = .tuple [a, b] ∧ P a ∧ P b
  | [], _, _, _, d, hd => by cases hd
  | _ :: _, [], _, _, d, hd => by cases hd
  | x :: l, y :: m, h1, h2, d, hd => by
    rcases List.mem_cons.mp hd with rfl | hd
    · exact ⟨x, y, rfl, h1 x List.mem_cons_self, h2 y List.mem_cons_self⟩
    · exact zip_mem P (fun z hz => h1 z (List.mem_cons_of_mem _ hz)) (fun z hz => h2 z (List.mem_cons_of_mem _ hz)) d hd
theorem r_is_rising {k n : Nat} {d : PyData} {l : List PyData} {Q : Vl → Slt → Prop} (hd : d = .list l ∨ d = .tuple l) (hn : 0 < n) (h : ∀ x ∈ l, kind x = n) : fnR (prg.at (k + 1)) "is_rising" [.dat d] Q ↔ Q (.dat (.bool (risB l))) none := by
  refine fnR_iff ((fnR_run fn_is_rising rfl).mpr ?_)
  rcases hd with rfl | rfl
  all_goals
    simp [-List.all_eq_true, -List.any_eq_true, -List.all_eq_false, -List.any_eq_false, f_is_rising]
    refine wp_lcMap (fun d => .bool (match d with | .tuple [a, b] => ltB a b | _ => true)) (by simp [-List.all_eq_true, -List.any_eq_true, -List.all_eq_false, -List.any_eq_false]) (fun d hd => ?_) ?_
    · obtain ⟨a, b, rfl, ha, hb⟩ := zip_mem (fun x => kind x = n) h (fun x hx => h x (List.mem_of_mem_tail hx)) d hd
      simp [-List.all_eq_true, -List.any_eq_true, -List.all_eq_false, -List.any_eq_false, (ltD_kind hn ha hb).1]
    · simp [-List.all_eq_true, -List.any_eq_true, -List.all_eq_false, -List.any_eq_false, opAll_map]
      exact zip_ris l
theorem name_kind {d : PyData} (h : nameB d = true) : kind d = 2 := by cases d <;> first | rfl | cases h
theorem from_kind {lo hi : Int} {d : PyData} (h : fromB lo hi d = true) : kind d = 1 := by cases d <;> first | rfl | cases h
/-- data whose parts are checked too -/
def okL (l : List PyData) : Bool := l.all okD
def colsB : PyData → Bool
  | .tuple l => decide (1 ≤ l.length) && decide (l.length ≤ 5) && l.all nameB && risB l
  | _ => false
def rowB (n : Nat) : PyData → Bool
  | .tuple l => decide (l.length = n) && l.all fun d => isNone d || worthB d
  | _ => false
theorem okL_mem {l : List PyData} (h : okL l = true) : ∀ x ∈ l, okD x = true := List.all_eq_true.mp h
theorem r_are_columns {k : Nat} {d : PyData} {Q : Vl → Slt → Prop} (h0 : okD d = true) (h : ∀ l, d = .tuple l → okL l = true) : fnR (prg.at (k + 2)) "are_columns" [.dat d] Q ↔ Q (.dat (.bool (colsB d))) none := by
  refine fnR_iff ((fnR_run fn_are_columns rfl).mpr ?_)
  cases d <;> simp [-List.all_eq_true, -List.any_eq_true, -List.all_eq_false, -List.any_eq_false, f_are_columns]
  case dict => cases h0
  case tuple l =>
    split
    · rename_i h1
      split
      · rename_i h2
        have e2 : ¬ l.length ≤ 5 := by omega
        simp [-List.all_eq_true, -List.any_eq_true, -List.all_eq_false, -List.any_eq_false, colsB, e2]
      · rename_i h2
        have e1 : 1 ≤ l.length := by omega
        have e2 : l.length ≤ 5 := by omega
        refine wp_lcMap (fun d => .bool (nameB d)) (by simp [-List.all_eq_true, -List.any_eq_true, -List.all_eq_false, -List.any_eq_false]) (fun d hd => ?_) ?_
        · simp [-List.all_eq_true, -List.any_eq_true, -List.all_eq_false, -List.any_eq_false, okL_mem (h l rfl) d hd]
        · simp [-List.all_eq_true, -List.any_eq_true, -List.all_eq_false, -List.any_eq_false]
          cases hb : l.all nameB with
          | false =>
            simp [-List.all_eq_true, -List.any_eq_true, -List.all_eq_false, -List.any_eq_false, hb, colsB]
          | true =>
            have hk : ∀ x ∈ l, kind x = 2 := fun x hx => name_kind (List.all_eq_true.mp hb x hx)
            simp [-List.all_eq_true, -List.any_eq_true, -List.all_eq_false, -List.any_eq_false, hb, r_is_rising (.inr rfl) (by decide : 0 < 2) hk, colsB, e1, e2]
    · rename_i h1
      have e1 : l.length = 0 := by omega
      simp [-List.all_eq_true, -List.any_eq_true, -List.all_eq_false, -List.any_eq_false, colsB, e1]
  all_goals rfl
theorem r_is_row {k : Nat} {d : PyData} {c : List PyData} {Q : Vl → Slt → Prop} (h0 : okD d = true) (h : ∀ l, d = .tuple l → okL l = true) : fnR (prg.at (k + 3)) "is_row" [.dat (.tuple c), .dat d] Q ↔ Q (.dat (.bool (rowB c.length d))) none := by
  refine fnR_iff ((fnR_run fn_is_row rfl).mpr ?_)
  cases d <;> simp [-List.all_eq_true, -List.any_eq_true, -List.all_eq_false, -List.any_eq_false, f_is_row]
  case dict => cases h0
  case tuple l =>
    split
    · rename_i h1
      have e1 : l.length = c.length := by omega
      refine wp_lcMap (fun d => .bool (isNone d || worthB d)) (by simp [-List.all_eq_true, -List.any_eq_true, -List.all_eq_false, -List.any_eq_false]) (fun d hd => ?_) ?_
      · simp [-List.all_eq_true, -List.any_eq_true, -List.all_eq_false, -List.any_eq_false, okL_mem (h l rfl) d hd]
        cases isNone d <;> simp [-List.all_eq_true, -List.any_eq_true, -List.all_eq_false, -List.any_eq_false]
      · simp [-List.all_eq_true, -List.any_eq_true, -List.all_eq_false, -List.any_eq_false, rowB, e1]
    · rename_i h1
      have e1 : ¬ l.length = c.length := by omega
      simp [-List.all_eq_true, -List.any_eq_true, -List.all_eq_false, -List.any_eq_false, rowB, e1]
  all_goals rfl
/-- the n-th of a tuple -/
def nth (n : Nat) : PyData → PyData
  | .tuple l => l.getD n .none
  | _ => .none
@[simp] theorem nth0 {a : PyData} {l : List PyData} : nth 0 (.tuple (a :: l)) = a := rfl
@[simp] theorem nth1 {a b : PyData} {l : List PyData} : nth 1 (.tuple (a :: b :: l)) = b := rfl
def rowsB (c : PyData) : PyData → Bool
  | .tuple r => decide (r.length ≤ 8) && r.all pairB && (r.all fun p => fromB 0 999 (nth 0 p) && rowB (match c with | .tuple l => l.length | _ => 0) (nth 1 p)) && risB (r.map (nth 0))
  | _ => false
def tableB (d : PyData) : Bool := pairB d && colsB (nth 0 d) && rowsB (nth 0 d) (nth 1 d)
def housesB : PyData → Bool
  | .tuple l => decide (1 ≤ l.length) && decide (l.length ≤ 4) && l.all pairB && (l.all fun p => nameB (nth 0 p) && tableB (nth 1 p)) && risB (l.map (nth 0))
  | _ => false
/-- data that is sound to this depth -/
def okN : Nat → PyData → Bool
  | 0, d => okD d
  | n + 1, d => okD d && match d with
    | .tuple l => l.all (okN n)
    | .list l => l.all (okN n)
    | _ => true
theorem okN_D : ∀ {n : Nat} {d : PyData}, okN n d = true → okD d = true
  | 0, _, h => h
  | _ + 1, _, h => (Bool.and_eq_true_iff.mp h).1
theorem okN_T {n : Nat} {l : List PyData} (h : okN (n + 1) (.tuple l) = true) : ∀ x ∈ l, okN n x = true := List.all_eq_true.mp (Bool.and_eq_true_iff.mp h).2
theorem okN_L {n : Nat} {l : List PyData} (h : okN (n + 1) (.tuple l) = true) : okL l = true := List.all_eq_true.mpr fun x hx => okN_D (okN_T h x hx)
theorem okN_nth {n k : Nat} {d : PyData} (h : okN (n + 1) d = true) : okN n (nth k d) = true := by
  have hn : okN n .none = true := by cases n <;> rfl
  cases d with
  | tuple l =>
    show okN n (l.getD k .none) = true
    rw [List.getD_eq_getElem?_getD]
    cases hk : l[k]? with
    | none => exact hn
    | some x => exact okN_T h x (List.mem_of_getElem? hk)
  | _ => exact hn
theorem pair_mk {d : PyData} (h : pairB d = true) : ∃ a b, d = .tuple [a, b] := by
  cases d with
  | tuple l =>
    match l, h with
    | [a, b], _ => exact ⟨a, b, rfl⟩
    | [], h => cases h
    | [_], h => cases h
    | _ :: _ :: _ :: _, h => simp [-List.all_eq_true, -List.any_eq_true, -List.all_eq_false, -List.any_eq_false, pairB] at h
  | _ => cases h
theorem r_is_table {k : Nat} {d : PyData} {Q : Vl → Slt → Prop} (h : okN 4 d = true) : fnR (prg.at (k + 4)) "is_table" [.dat d] Q ↔ Q (.dat (.bool (tableB d))) none := by
  refine fnR_iff ((fnR_run fn_is_table rfl).mpr ?_)
  simp [-List.all_eq_true, -List.any_eq_true, -List.all_eq_false, -List.any_eq_false, f_is_table, okN_D h]
  cases hp : pairB d with
  | false => simp [-List.all_eq_true, -List.any_eq_true, -List.all_eq_false, -List.any_eq_false, tableB, hp]
  | true =>
    obtain ⟨c, r, rfl⟩ := pair_mk hp
    have hc : okN 3 c = true := okN_T h c (by simp [-List.all_eq_true, -List.any_eq_true, -List.all_eq_false, -List.any_eq_false])
    have hr : okN 3 r = true := okN_T h r (by simp [-List.all_eq_true, -List.any_eq_true, -List.all_eq_false, -List.any_eq_false])
    simp [-List.all_eq_true, -List.any_eq_true, -List.all_eq_false, -List.any_eq_false, r_are_columns (okN_D hc) (fun l e => okN_L (n := 2) (e ▸ hc))]
    cases hcb : colsB c with
    | false => simp [-List.all_eq_true, -List.any_eq_true, -List.all_eq_false, -List.any_eq_false, tableB, hcb]
    | true =>
      have hcl : ∃ l, c = .tuple l := by
        cases c with
        | tuple l => exact ⟨l, rfl⟩
        | _ => cases hcb
      obtain ⟨cl, rfl⟩ := hcl
      have hrp := okD_plain (okN_D hr)
      simp [-List.all_eq_true, -List.any_eq_true, -List.all_eq_false, -List.any_eq_false]
      cases r with
      | dict _ => cases hrp
      | tuple rl =>
        simp [-List.all_eq_true, -List.any_eq_true, -List.all_eq_false, -List.any_eq_false]
        by_cases h8 : rl.length ≤ 8
        · have h8' : ¬ (8 < (rl.length : Int)) := by omega
          simp [-List.all_eq_true, -List.any_eq_true, -List.all_eq_false, -List.any_eq_false, h8']
          refine wp_lcMap (fun d => .bool (pairB d)) (by simp [-List.all_eq_true, -List.any_eq_true, -List.all_eq_false, -List.any_eq_false]) (fun d hd => ?_) ?_
          · simp [-List.all_eq_true, -List.any_eq_true, -List.all_eq_false, -List.any_eq_false, okN_D (okN_T hr d hd)]
          · simp [-List.all_eq_true, -List.any_eq_true, -List.all_eq_false, -List.any_eq_false]
            cases hrb : rl.all pairB with
            | false => simp [-List.all_eq_true, -List.any_eq_true, -List.all_eq_false, -List.any_eq_false, tableB, rowsB, hrb]
            | true =>
              simp [-List.all_eq_true, -List.any_eq_true, -List.all_eq_false, -List.any_eq_false]
              refine wp_lcMap (fun p => .bool (fromB 0 999 (nth 0 p) && rowB cl.length (nth 1 p))) (by simp [-List.all_eq_true, -List.any_eq_true, -List.all_eq_false, -List.any_eq_false]) (fun d hd => ?_) ?_
              · obtain ⟨a, b, rfl⟩ := pair_mk (List.all_eq_true.mp hrb d hd)
                have ha : okN 1 a = true := okN_T (okN_T hr _ hd) a (by simp [-List.all_eq_true, -List.any_eq_true, -List.all_eq_false, -List.any_eq_false])
                have hb : okN 1 b = true := okN_T (okN_T hr _ hd) b (by simp [-List.all_eq_true, -List.any_eq_true, -List.all_eq_false, -List.any_eq_false])
                simp [-List.all_eq_true, -List.any_eq_true, -List.all_eq_false, -List.any_eq_false, okN_D ha, r_is_row (okN_D hb) (fun l e => okN_L (n := 0) (e ▸ hb))]
                cases fromB 0 999 a <;> simp [-List.all_eq_true, -List.any_eq_true, -List.all_eq_false, -List.any_eq_false]
              · simp [-List.all_eq_true, -List.any_eq_true, -List.all_eq_false, -List.any_eq_false]
                cases hfb : rl.all (fun p => fromB 0 999 (nth 0 p) && rowB cl.length (nth 1 p)) with
                | false => simp [-List.all_eq_true, -List.any_eq_true, -List.all_eq_false, -List.any_eq_false, tableB, rowsB, hfb]
                | true =>
                  simp [-List.all_eq_true, -List.any_eq_true, -List.all_eq_false, -List.any_eq_false]
                  refine wp_lcMap (nth 0) (by simp [-List.all_eq_true, -List.any_eq_true, -List.all_eq_false, -List.any_eq_false]) (fun d hd => ?_) ?_
                  · obtain ⟨a, b, rfl⟩ := pair_mk (List.all_eq_true.mp hrb d hd)
                    simp [-List.all_eq_true, -List.any_eq_true, -List.all_eq_false, -List.any_eq_false]
                  · have hk : ∀ x ∈ rl.map (nth 0), kind x = 1 := by
                      intro x hx
                      obtain ⟨p, hp, rfl⟩ := List.mem_map.mp hx
                      exact from_kind (Bool.and_eq_true_iff.mp (List.all_eq_true.mp hfb p hp)).1
                    simp [-List.all_eq_true, -List.any_eq_true, -List.all_eq_false, -List.any_eq_false, r_is_rising (.inl rfl) (by decide : 0 < 1) hk, tableB, hp, hcb, rowsB, h8, hrb, hfb]
        · have h8' : 8 < (rl.length : Int) := by omega
          simp [-List.all_eq_true, -List.any_eq_true, -List.all_eq_false, -List.any_eq_false, h8', tableB, rowsB, h8]
      | _ => simp [-List.all_eq_true, -List.any_eq_true, -List.all_eq_false, -List.any_eq_false, tableB, rowsB]
@[simp] theorem r_are_houses {k : Nat} {d : PyData} {Q : Vl → Slt → Prop} (h : okN 6 d = true) : fnR (prg.at (k + 5)) "are_houses" [.dat d] Q ↔ Q (.dat (.bool (housesB d))) none := by
  refine fnR_iff ((fnR_run fn_are_houses rfl).mpr ?_)
  have hd0 := okN_D h
  cases d <;> simp [-List.all_eq_true, -List.any_eq_true, -List.all_eq_false, -List.any_eq_false, f_are_houses]
  case dict => cases hd0
  case tuple l =>
    split
    · rename_i h1
      split
      · rename_i h2
        have e2 : ¬ l.length ≤ 4 := by omega
        simp [-List.all_eq_true, -List.any_eq_true, -List.all_eq_false, -List.any_eq_false, housesB, e2]
      · rename_i h2
        have e1 : 1 ≤ l.length := by omega
        have e2 : l.length ≤ 4 := by omega
        refine wp_lcMap (fun d => .bool (pairB d)) (by simp [-List.all_eq_true, -List.any_eq_true, -List.all_eq_false, -List.any_eq_false]) (fun d hd => ?_) ?_
        · simp [-List.all_eq_true, -List.any_eq_true, -List.all_eq_false, -List.any_eq_false, okN_D (okN_T h d hd)]
        · simp [-List.all_eq_true, -List.any_eq_true, -List.all_eq_false, -List.any_eq_false]
          cases hrb : l.all pairB with
          | false => simp [-List.all_eq_true, -List.any_eq_true, -List.all_eq_false, -List.any_eq_false, housesB, hrb]
          | true =>
            simp [-List.all_eq_true, -List.any_eq_true, -List.all_eq_false, -List.any_eq_false]
            refine wp_lcMap (fun p => .bool (nameB (nth 0 p) && tableB (nth 1 p))) (by simp [-List.all_eq_true, -List.any_eq_true, -List.all_eq_false, -List.any_eq_false]) (fun d hd => ?_) ?_
            · obtain ⟨a, b, rfl⟩ := pair_mk (List.all_eq_true.mp hrb d hd)
              have ha : okN 4 a = true := okN_T (okN_T h _ hd) a (by simp [-List.all_eq_true, -List.any_eq_true, -List.all_eq_false, -List.any_eq_false])
              have hb : okN 4 b = true := okN_T (okN_T h _ hd) b (by simp [-List.all_eq_true, -List.any_eq_true, -List.all_eq_false, -List.any_eq_false])
              simp [-List.all_eq_true, -List.any_eq_true, -List.all_eq_false, -List.any_eq_false, okN_D ha, r_is_table hb]
              cases nameB a <;> simp [-List.all_eq_true, -List.any_eq_true, -List.all_eq_false, -List.any_eq_false]
            · simp [-List.all_eq_true, -List.any_eq_true, -List.all_eq_false, -List.any_eq_false]
              cases hfb : l.all (fun p => nameB (nth 0 p) && tableB (nth 1 p)) with
              | false => simp [-List.all_eq_true, -List.any_eq_true, -List.all_eq_false, -List.any_eq_false, housesB, hfb]
              | true =>
                simp [-List.all_eq_true, -List.any_eq_true, -List.all_eq_false, -List.any_eq_false]
                refine wp_lcMap (nth 0) (by simp [-List.all_eq_true, -List.any_eq_true, -List.all_eq_false, -List.any_eq_false]) (fun d hd => ?_) ?_
                · obtain ⟨a, b, rfl⟩ := pair_mk (List.all_eq_true.mp hrb d hd)
                  simp [-List.all_eq_true, -List.any_eq_true, -List.all_eq_false, -List.any_eq_false]
                · have hk : ∀ x ∈ l.map (nth 0), kind x = 2 := by
                    intro x hx
                    obtain ⟨p, hp, rfl⟩ := List.mem_map.mp hx
                    exact name_kind (Bool.and_eq_true_iff.mp (List.all_eq_true.mp hfb p hp)).1
                  simp [-List.all_eq_true, -List.any_eq_true, -List.all_eq_false, -List.any_eq_false, r_is_rising (.inl rfl) (by decide : 0 < 2) hk, housesB, e1, e2, hrb, hfb]
    · rename_i h1
      have e1 : l.length = 0 := by omega
      simp [-List.all_eq_true, -List.any_eq_true, -List.all_eq_false, -List.any_eq_false, housesB, e1]
  all_goals rfl
end Pb
end

section
set_option Elab.async false
set_option linter.all false
set_option maxRecDepth 100000
/-! # What the law's own checks come to -/
namespace Pb
open PySem
theorem lt1 (c d : Nat) : ([c] < [d]) ↔ c < d := by
  constructor
  · intro h
    cases h with
    | rel h => exact h
    | cons h => cases h
  · intro h
    exact .rel h
theorem le_a (c : Nat) : opCmp .le (.str "a") (.str ⟨#[c]⟩) = some (decide (97 ≤ c)) := by
  have e : (Str.ofString "a").cps.toList = [97] := by decide +kernel
  rw [opLe_ss, e]
  by_cases h : 97 ≤ c <;> simp [-List.all_eq_true, -List.any_eq_true, -List.all_eq_false, -List.any_eq_false, lt1, h] <;> omega
theorem le_z (c : Nat) : opCmp .le (.str ⟨#[c]⟩) (.str "z") = some (decide (c ≤ 122)) := by
  have e : (Str.ofString "z").cps.toList = [122] := by decide +kernel
  rw [opLe_ss, e]
  by_cases h : c ≤ 122 <;> simp [-List.all_eq_true, -List.any_eq_true, -List.all_eq_false, -List.any_eq_false, lt1, h] <;> omega
@[simp] theorem r_law_is_name {k : Nat} {d : PyData} {Q : Vl → Slt → Prop} (h : okD d = true) : fnR (prg.at (k + 1)) "_law_is_name" [.dat d] Q ↔ Q (.dat (.bool (nameB d))) none := by
  refine fnR_iff ((fnR_run fn__law_is_name rfl).mpr ?_)
  cases d <;> simp [-List.all_eq_true, -List.any_eq_true, -List.all_eq_false, -List.any_eq_false, f__law_is_name]
  case dict => cases h
  case str x =>
    have h' : x.length ≤ lim := of_decide_eq_true h
    simp [-List.all_eq_true, -List.any_eq_true, -List.all_eq_false, -List.any_eq_false, h']
    split
    · rename_i h1
      split
      · rename_i h2
        have e2 : ¬ x.length ≤ 8 := by omega
        simp [-List.all_eq_true, -List.any_eq_true, -List.all_eq_false, -List.any_eq_false, nameB, e2]
      · rename_i h2
        have e1 : 1 ≤ x.length := by omega
        have e2 : x.length ≤ 8 := by omega
        refine wp_lcFil (fun d => !signB (fun c => decide (97 ≤ c) && decide (c ≤ 122)) d) id (by simp [-List.all_eq_true, -List.any_eq_true, -List.all_eq_false, -List.any_eq_false]) (fun d hd => ?_) ?_
        · obtain ⟨c, _, rfl⟩ := List.mem_map.mp hd
          simp [-List.all_eq_true, -List.any_eq_true, -List.all_eq_false, -List.any_eq_false, signB, le_a, le_z, -opLe_ss]
          by_cases h1 : 97 ≤ c <;> by_cases h2 : c ≤ 122 <;> simp [-List.all_eq_true, -List.any_eq_true, -List.all_eq_false, -List.any_eq_false, h1, h2] <;> omega
        · simp [-List.all_eq_true, -List.any_eq_true, -List.all_eq_false, -List.any_eq_false, nameB, e1, e2, signs_all, -List.all_map, -Array.all_toList]
    · rename_i h1
      have e1 : x.length = 0 := by omega
      simp [-List.all_eq_true, -List.any_eq_true, -List.all_eq_false, -List.any_eq_false, nameB, e1]
  all_goals rfl
/-- the place before, and the place -/
def stepB (l : List PyData) : PyData → Bool
  | .int i => ltB (l.getD (i - 1).toNat .none) (l.getD i.toNat .none)
  | _ => true
theorem step_shift (a : PyData) (l : List PyData) : ∀ (n : Nat) (i : Int), 1 ≤ i → (rngL (i + 1) n).all (stepB (a :: l)) = (rngL i n).all (stepB l)
  | 0, _, _ => rfl
  | n + 1, i, h => by
    have ih := step_shift a l n (i + 1) (by omega)
    simp only [rngL, List.all_cons, ih]
    congr 1
    unfold stepB
    obtain ⟨m, rfl⟩ : ∃ m : Nat, i = m + 1 := ⟨(i - 1).toNat, by omega⟩
    have e1 : ((m : Int) + 1 + 1 - 1).toNat = m + 1 := by omega
    have e2 : ((m : Int) + 1 + 1).toNat = m + 2 := by omega
    have e3 : ((m : Int) + 1 - 1).toNat = m := by omega
    have e4 : ((m : Int) + 1).toNat = m + 1 := by omega
    simp [-List.all_eq_true, -List.any_eq_true, -List.all_eq_false, -List.any_eq_false, e1, e2, e3, e4]
theorem step_ris : ∀ l : List PyData, (rngL 1 (l.length - 1)).all (stepB l) = risB l
  | [] => rfl
  | [_] => rfl
  | a :: b :: r => by
    have ih := step_ris (b :: r)
    have sh := step_shift a (b :: r) r.length 1 (by omega)
    have e : (a :: b :: r).length - 1 = r.length + 1 := rfl
    have e2 : (b :: r).length - 1 = r.length := rfl
    rw [e]
    rw [e2] at ih
    simp only [rngL, List.all_cons, risB]
    rw [sh, ih]
    rfl
theorem rngL_mem : ∀ {n : Nat} {lo : Int} {d : PyData}, d ∈ rngL lo n → ∃ i, d = .int i ∧ lo ≤ i ∧ i < lo + n
  | n + 1, lo, d, h => by
    rcases List.mem_cons.mp h with rfl | h
    · exact ⟨lo, rfl, by omega, by omega⟩
    · obtain ⟨i, rfl, h1, h2⟩ := rngL_mem h
      exact ⟨i, rfl, by omega, by omega⟩
theorem r_law_rises {k n : Nat} {d : PyData} {l : List PyData} {Q : Vl → Slt → Prop} (hd : d = .list l ∨ d = .tuple l) (hl : l.length ≤ 1000) (hn : 0 < n) (h : ∀ x ∈ l, kind x = n) : fnR (prg.at (k + 1)) "_law_rises" [.dat d] Q ↔ Q (.dat (.bool (risB l))) none := by
  refine fnR_iff ((fnR_run fn__law_rises rfl).mpr ?_)
  have hr : rngOf 1 (l.length : Int) = some (rngL 1 (l.length - 1)) := by
    have e : ((l.length : Int) - 1).toNat = l.length - 1 := by omega
    rw [rngOf_small (by omega) (by omega) (by omega) (by omega), e]
  rcases hd with rfl | rfl
  all_goals
    simp [-List.all_eq_true, -List.any_eq_true, -List.all_eq_false, -List.any_eq_false, f__law_rises, hr]
    refine wp_lcFil (fun d => !stepB l d) id (by simp [-List.all_eq_true, -List.any_eq_true, -List.all_eq_false, -List.any_eq_false]) (fun d hd => ?_) ?_
    · obtain ⟨i, rfl, h1, h2⟩ := rngL_mem hd
      obtain ⟨m, rfl⟩ : ∃ m : Nat, i = (m : Int) + 1 := ⟨(i - 1).toNat, by omega⟩
      have hm : m + 1 < l.length := by omega
      have ha : l[m]? = some l[m] := List.getElem?_eq_getElem (by omega)
      have hb : l[m + 1]? = some l[m + 1] := List.getElem?_eq_getElem hm
      have e1 : (m : Int) + 1 - 1 = m := by omega
      have e2 : L2.atI l (m : Int) = some l[m] := by rw [atI_nat, ha]
      have e3 : L2.atI l ((m : Int) + 1) = some l[m + 1] := by
        have := atI_nat (l := l) (n := m + 1)
        rw [hb] at this
        exact this
      have e5 : ((m : Int) + 1 - 1).toNat = m := by omega
      have e4 : ((m : Int) + 1).toNat = m + 1 := by omega
      have es : stepB l (.int ((m : Int) + 1)) = ltB l[m] l[m + 1] := by
        show ltB (l.getD ((m : Int) + 1 - 1).toNat .none) (l.getD ((m : Int) + 1).toNat .none) = _
        rw [e4, e5]
        simp [-List.all_eq_true, -List.any_eq_true, -List.all_eq_false, -List.any_eq_false, List.getD_eq_getElem?_getD, ha, hb]
      simp [-List.all_eq_true, -List.any_eq_true, -List.all_eq_false, -List.any_eq_false, e1, e2, e3, es, (ltD_kind hn (h _ (List.getElem_mem (by omega : m < l.length))) (h _ (List.getElem_mem hm))).2]
    · simp [-List.all_eq_true, -List.any_eq_true, -List.all_eq_false, -List.any_eq_false, step_ris]
def pairsB (n : Nat) : PyData → Bool
  | .tuple l => decide (l.length ≤ n) && l.all pairB
  | _ => false
theorem r_law_are_pairs {k n : Nat} {m : Int} {d : PyData} {Q : Vl → Slt → Prop} (hm : m = (n : Int)) (h0 : okD d = true) (h : ∀ l, d = .tuple l → okL l = true) : fnR (prg.at (k + 1)) "_law_are_pairs" [.dat d, .dat (.int m)] Q ↔ Q (.dat (.bool (pairsB n d))) none := by
  subst hm
  refine fnR_iff ((fnR_run fn__law_are_pairs rfl).mpr ?_)
  cases d <;> simp [-List.all_eq_true, -List.any_eq_true, -List.all_eq_false, -List.any_eq_false, f__law_are_pairs]
  case dict => cases h0
  case tuple l =>
    split
    · rename_i h1
      have e2 : ¬ l.length ≤ n := by omega
      simp [-List.all_eq_true, -List.any_eq_true, -List.all_eq_false, -List.any_eq_false, pairsB, e2]
    · rename_i h2
      have e2 : l.length ≤ n := by omega
      refine wp_lcFil (fun d => !pairB d) id (by simp [-List.all_eq_true, -List.any_eq_true, -List.all_eq_false, -List.any_eq_false]) (fun d hd => ?_) ?_
      · have hx := okL_mem (h l rfl) d hd
        cases d <;> simp [-List.all_eq_true, -List.any_eq_true, -List.all_eq_false, -List.any_eq_false, pairB]
        · rename_i m
          by_cases e : m.length = 2 <;> simp [-List.all_eq_true, -List.any_eq_true, -List.all_eq_false, -List.any_eq_false, e]
          omega
        · cases hx
      · simp [-List.all_eq_true, -List.any_eq_true, -List.all_eq_false, -List.any_eq_false, pairsB, e2]
  all_goals rfl
def wholeB : PyData → Bool
  | .int _ => true
  | _ => false
@[simp] theorem r_law_whole {k : Nat} {d : PyData} {Q : Vl → Slt → Prop} (h0 : okD d = true) : fnR (prg.at (k + 1)) "_law_whole" [.dat d] Q ↔ Q (.dat (.bool (wholeB d))) none := by
  refine fnR_iff ((fnR_run fn__law_whole rfl).mpr ?_)
  cases d <;> simp [-List.all_eq_true, -List.any_eq_true, -List.all_eq_false, -List.any_eq_false, f__law_whole, wholeB]
  cases h0
@[simp] theorem r_law_is_worth {k : Nat} {d : PyData} {Q : Vl → Slt → Prop} (h0 : okD d = true) : fnR (prg.at (k + 2)) "_law_is_worth" [.dat d] Q ↔ Q (.dat (.bool (worthB d))) none := by
  refine fnR_iff ((fnR_run fn__law_is_worth rfl).mpr ?_)
  simp [-List.all_eq_true, -List.any_eq_true, -List.all_eq_false, -List.any_eq_false, f__law_is_worth, h0, worthB]
  cases hn : nameB d with
  | true => simp [-List.all_eq_true, -List.any_eq_true, -List.all_eq_false, -List.any_eq_false]
  | false =>
    cases d <;> simp [-List.all_eq_true, -List.any_eq_true, -List.all_eq_false, -List.any_eq_false, wholeB, fromB]
    rename_i i
    split <;> rename_i h <;> simp [-List.all_eq_true, -List.any_eq_true, -List.all_eq_false, -List.any_eq_false, h]
/-- one row of a table, as the law looks at it -/
def lrowB (n : Nat) (p : PyData) : Bool := fromB 0 999 (nth 0 p) && rowB n (nth 1 p)
theorem r_law_is_table {k : Nat} {d : PyData} {Q : Vl → Slt → Prop} (h : okN 4 d = true) : fnR (prg.at (k + 4)) "_law_is_table" [.dat d] Q ↔ Q (.dat (.bool (tableB d))) none := by
  refine fnR_iff ((fnR_run fn__law_is_table rfl).mpr ?_)
  have hd0 := okN_D h
  cases hp : pairB d with
  | false =>
    cases d <;> simp [-List.all_eq_true, -List.any_eq_true, -List.all_eq_false, -List.any_eq_false, f__law_is_table, tableB, hp]
    case dict => cases hd0
    case tuple l =>
      have e : ¬ ((l.length : Int) = 2) := by
        intro e
        have e2 : l.length = 2 := by omega
        simp [-List.all_eq_true, -List.any_eq_true, -List.all_eq_false, -List.any_eq_false, pairB, e2] at hp
      simp [-List.all_eq_true, -List.any_eq_true, -List.all_eq_false, -List.any_eq_false, e]
  | true =>
    obtain ⟨c, r, rfl⟩ := pair_mk hp
    have hc : okN 3 c = true := okN_T h c (by simp [-List.all_eq_true, -List.any_eq_true, -List.all_eq_false, -List.any_eq_false])
    have hr : okN 3 r = true := okN_T h r (by simp [-List.all_eq_true, -List.any_eq_true, -List.all_eq_false, -List.any_eq_false])
    have hcp := okD_plain (okN_D hc)
    cases c <;> simp [-List.all_eq_true, -List.any_eq_true, -List.all_eq_false, -List.any_eq_false, f__law_is_table]
    case dict => cases hcp
    case tuple cl =>
      by_cases h5 : 1 ≤ cl.length ∧ cl.length ≤ 5
      · have h51 : 1 ≤ (cl.length : Int) := by omega
        have h52 : ¬ 5 < (cl.length : Int) := by omega
        simp [-List.all_eq_true, -List.any_eq_true, -List.all_eq_false, -List.any_eq_false, h51, h52]
        refine wp_lcFil (fun d => !nameB d) id (by simp [-List.all_eq_true, -List.any_eq_true, -List.all_eq_false, -List.any_eq_false]) (fun d hd => ?_) ?_
        · simp [-List.all_eq_true, -List.any_eq_true, -List.all_eq_false, -List.any_eq_false, okN_D (okN_T hc d hd)]
        · simp [-List.all_eq_true, -List.any_eq_true, -List.all_eq_false, -List.any_eq_false]
          cases hnb : cl.all nameB with
          | false => simp [-List.all_eq_true, -List.any_eq_true, -List.all_eq_false, -List.any_eq_false, tableB, colsB, hnb]
          | true =>
            have hk : ∀ x ∈ cl, kind x = 2 := fun x hx => name_kind (List.all_eq_true.mp hnb x hx)
            have hpr := fun Q => r_law_are_pairs (k := k + 2) (n := 8) (m := 8) (Q := Q) rfl (okN_D hr) (fun l e => okN_L (n := 2) (e ▸ hr))
            simp [-List.all_eq_true, -List.any_eq_true, -List.all_eq_false, -List.any_eq_false, hpr, r_law_rises (.inr rfl) (by omega : cl.length ≤ 1000) (by decide : 0 < 2) hk]
            cases hrb : risB cl with
            | false => simp [-List.all_eq_true, -List.any_eq_true, -List.all_eq_false, -List.any_eq_false, tableB, colsB, hrb]
            | true =>
              have hcb : colsB (.tuple cl) = true := by simp [-List.all_eq_true, -List.any_eq_true, -List.all_eq_false, -List.any_eq_false, colsB, hnb, hrb, h5]
              simp [-List.all_eq_true, -List.any_eq_true, -List.all_eq_false, -List.any_eq_false]
              cases hqb : pairsB 8 r with
              | false =>
                have : rowsB (.tuple cl) r = false := by
                  cases r <;> first | rfl | skip
                  rename_i rl
                  simp only [pairsB, Bool.and_eq_false_iff] at hqb
                  simp only [rowsB]
                  rcases hqb with e | e <;> simp [-List.all_eq_true, -List.any_eq_true, -List.all_eq_false, -List.any_eq_false, e]
                simp [-List.all_eq_true, -List.any_eq_true, -List.all_eq_false, -List.any_eq_false, tableB, this]
              | true =>
                have hrl : ∃ rl, r = .tuple rl := by
                  cases r with
                  | tuple l => exact ⟨l, rfl⟩
                  | _ => cases hqb
                obtain ⟨rl, rfl⟩ := hrl
                have hq2 := Bool.and_eq_true_iff.mp hqb
                have h8 : rl.length ≤ 8 := of_decide_eq_true hq2.1
                simp [-List.all_eq_true, -List.any_eq_true, -List.all_eq_false, -List.any_eq_false]
                refine wp_forAll (fun ρ => ∃ a b c, dS a ∧ dS b ∧ dS c ∧ ρ = [some (.dat (.tuple [.tuple cl, .tuple rl])), some (.dat (.tuple cl)), some (.dat (.tuple rl)), none, a, b, c, none]) (lrowB cl.length) (.dat (.bool false)) rl _ ⟨none, none, none, trivial, trivial, trivial, rfl⟩ (fun d hd ρ ⟨a, b, c, ha, hb, hc, e⟩ => ?_) (fun hfb ρ ⟨a, b, c, ha, hb, hc, e⟩ => ?_) (fun hfb ρ => ?_)
                · subst e
                  obtain ⟨x, y, rfl⟩ := pair_mk (List.all_eq_true.mp hq2.2 d hd)
                  have hx : okN 1 x = true := okN_T (okN_T hr _ hd) x (by simp [-List.all_eq_true, -List.any_eq_true, -List.all_eq_false, -List.any_eq_false])
                  have hy : okN 1 y = true := okN_T (okN_T hr _ hd) y (by simp [-List.all_eq_true, -List.any_eq_true, -List.all_eq_false, -List.any_eq_false])
                  have hyp := okD_plain (okN_D hy)
                  have hno : ∀ c : Slt, noOwn [some (.dat (.tuple [.tuple cl, .tuple rl])), some (.dat (.tuple cl)), some (.dat (.tuple rl)), none, some (.dat x), some (.dat y), c, none] [7] = true := fun c => by simp [-List.all_eq_true, -List.any_eq_true, -List.all_eq_false, -List.any_eq_false]
                  simp [-List.all_eq_true, -List.any_eq_true, -List.all_eq_false, -List.any_eq_false, putQ_dS ha, putQ_dS hb, okN_D hx]
                  cases x <;> simp [-List.all_eq_true, -List.any_eq_true, -List.all_eq_false, -List.any_eq_false, wholeB, lrowB, fromB]
                  rename_i i
                  by_cases h0 : 0 ≤ i
                  · by_cases h9 : i ≤ 999
                    · have h9' : ¬ 999 < i := by omega
                      simp [-List.all_eq_true, -List.any_eq_true, -List.all_eq_false, -List.any_eq_false, h0, h9, hyp]
                      cases y <;> simp [-List.all_eq_true, -List.any_eq_true, -List.all_eq_false, -List.any_eq_false, rowB, h9']
                      rename_i yl
                      refine wp_lcFil (fun d => !(isNone d || worthB d)) id (hno c) (fun d hd => ?_) ?_
                      · simp [-List.all_eq_true, -List.any_eq_true, -List.all_eq_false, -List.any_eq_false, okN_D (okN_T hy d hd)]
                        cases isNone d <;> simp [-List.all_eq_true, -List.any_eq_true, -List.all_eq_false, -List.any_eq_false]
                      · simp [-List.all_eq_true, -List.any_eq_true, -List.all_eq_false, -List.any_eq_false, putQ_dS hc, filter_none]
                        by_cases hl : yl.length = cl.length
                        · simp [-List.all_eq_true, -List.any_eq_true, -List.all_eq_false, -List.any_eq_false, hl]
                          cases hw : yl.all (fun d => isNone d || worthB d) <;> simp [-List.all_eq_true, -List.any_eq_true, -List.all_eq_false, -List.any_eq_false]
                          exact ⟨_, dS_dat _, _, dS_dat _, _, dS_dat _, rfl, rfl, rfl⟩
                        · have hl' : ¬ ((yl.length : Int) = cl.length) := by omega
                          simp [-List.all_eq_true, -List.any_eq_true, -List.all_eq_false, -List.any_eq_false, hl, hl']
                    · have h9' : 999 < i := by omega
                      simp [-List.all_eq_true, -List.any_eq_true, -List.all_eq_false, -List.any_eq_false, h0, h9, h9']
                  · simp [-List.all_eq_true, -List.any_eq_true, -List.all_eq_false, -List.any_eq_false, h0]
                · subst e
                  simp [-List.all_eq_true, -List.any_eq_true, -List.all_eq_false, -List.any_eq_false]
                  refine wp_lcMap (nth 0) (by rcases b with _ | _ | _ | _ <;> first | rfl | cases hb) (fun d hd => ?_) ?_
                  · obtain ⟨x, y, rfl⟩ := pair_mk (List.all_eq_true.mp hq2.2 d hd)
                    simp [-List.all_eq_true, -List.any_eq_true, -List.all_eq_false, -List.any_eq_false]
                  · have hk2 : ∀ x ∈ rl.map (nth 0), kind x = 1 := by
                      intro x hx
                      obtain ⟨p, hp, rfl⟩ := List.mem_map.mp hx
                      exact from_kind (Bool.and_eq_true_iff.mp (List.all_eq_true.mp hfb p hp)).1
                    have hlen : (rl.map (nth 0)).length ≤ 1000 := by rw [List.length_map]; omega
                    have hfb' : (rl.all fun p => fromB 0 999 (nth 0 p) && rowB cl.length (nth 1 p)) = true := hfb
                    simp [-List.all_eq_true, -List.any_eq_true, -List.all_eq_false, -List.any_eq_false, r_law_rises (.inl rfl) hlen (by decide : 0 < 1) hk2, tableB, hp, hcb, rowsB, h8, hq2.2, hfb']
                · have hfb' : (rl.all fun p => fromB 0 999 (nth 0 p) && rowB cl.length (nth 1 p)) = false := hfb
                  simp [-List.all_eq_true, -List.any_eq_true, -List.all_eq_false, -List.any_eq_false, tableB, rowsB, hfb']
      · have e : colsB (.tuple cl) = false := by
          simp [-List.all_eq_true, -List.any_eq_true, -List.all_eq_false, -List.any_eq_false, colsB]
          intro h1 h2
          exact absurd ⟨h1, h2⟩ h5
        by_cases h51 : 1 ≤ (cl.length : Int)
        · have h52 : 5 < (cl.length : Int) := by omega
          simp [-List.all_eq_true, -List.any_eq_true, -List.all_eq_false, -List.any_eq_false, h51, h52, tableB, e]
        · simp [-List.all_eq_true, -List.any_eq_true, -List.all_eq_false, -List.any_eq_false, h51, tableB, e]
    all_goals rfl
@[simp] theorem r_law_good {k : Nat} {d : PyData} {Q : Vl → Slt → Prop} (h : okN 6 d = true) : fnR (prg.at (k + 5)) "_law_good" [.dat d] Q ↔ Q (.dat (.bool (housesB d))) none := by
  refine fnR_iff ((fnR_run fn__law_good rfl).mpr ?_)
  have hpr := fun Q => r_law_are_pairs (k := k + 3) (n := 4) (m := 4) (Q := Q) rfl (okN_D h) (fun l e => okN_L (n := 5) (e ▸ h))
  simp [-List.all_eq_true, -List.any_eq_true, -List.all_eq_false, -List.any_eq_false, f__law_good, hpr]
  cases hqb : pairsB 4 d with
  | false =>
    simp [-List.all_eq_true, -List.any_eq_true, -List.all_eq_false, -List.any_eq_false]
    cases d <;> first | rfl | skip
    rename_i l
    simp only [pairsB, Bool.and_eq_false_iff] at hqb
    simp only [housesB]
    rcases hqb with e | e <;> simp [-List.all_eq_true, -List.any_eq_true, -List.all_eq_false, -List.any_eq_false, e]
  | true =>
    have hrl : ∃ l, d = .tuple l := by
      cases d with
      | tuple l => exact ⟨l, rfl⟩
      | _ => cases hqb
    obtain ⟨l, rfl⟩ := hrl
    have hq2 := Bool.and_eq_true_iff.mp hqb
    have h4 : l.length ≤ 4 := of_decide_eq_true hq2.1
    cases l with
    | nil => simp [-List.all_eq_true, -List.any_eq_true, -List.all_eq_false, -List.any_eq_false, housesB]
    | cons p l =>
      simp [-List.all_eq_true, -List.any_eq_true, -List.all_eq_false, -List.any_eq_false]
      refine wp_lcFil (fun p => !(nameB (nth 0 p) && tableB (nth 1 p))) id (by simp [-List.all_eq_true, -List.any_eq_true, -List.all_eq_false, -List.any_eq_false]) (fun d hd => ?_) ?_
      · obtain ⟨x, y, rfl⟩ := pair_mk (List.all_eq_true.mp hq2.2 d hd)
        have hx : okN 4 x = true := okN_T (okN_T h _ hd) x (by simp [-List.all_eq_true, -List.any_eq_true, -List.all_eq_false, -List.any_eq_false])
        have hy : okN 4 y = true := okN_T (okN_T h _ hd) y (by simp [-List.all_eq_true, -List.any_eq_true, -List.all_eq_false, -List.any_eq_false])
        simp [-List.all_eq_true, -List.any_eq_true, -List.all_eq_false, -List.any_eq_false, okN_D hx, r_law_is_table hy]
        cases nameB x <;> simp [-List.all_eq_true, -List.any_eq_true, -List.all_eq_false, -List.any_eq_false]
      · have h1 : 1 ≤ (p :: l).length := by simp [-List.all_eq_true, -List.any_eq_true, -List.all_eq_false, -List.any_eq_false]
        generalize p :: l = l at *
        simp [-List.all_eq_true, -List.any_eq_true, -List.all_eq_false, -List.any_eq_false]
        cases hfb : l.all (fun p => nameB (nth 0 p) && tableB (nth 1 p)) with
        | false => simp [-List.all_eq_true, -List.any_eq_true, -List.all_eq_false, -List.any_eq_false, housesB, hfb]
        | true =>
          simp [-List.all_eq_true, -List.any_eq_true, -List.all_eq_false, -List.any_eq_false]
          refine wp_lcMap (nth 0) (by simp [-List.all_eq_true, -List.any_eq_true, -List.all_eq_false, -List.any_eq_false]) (fun d hd => ?_) ?_
          · obtain ⟨a, b, rfl⟩ := pair_mk (List.all_eq_true.mp hq2.2 d hd)
            simp [-List.all_eq_true, -List.any_eq_true, -List.all_eq_false, -List.any_eq_false]
          · have hk : ∀ x ∈ l.map (nth 0), kind x = 2 := by
              intro x hx
              obtain ⟨p, hp, rfl⟩ := List.mem_map.mp hx
              exact name_kind (Bool.and_eq_true_iff.mp (List.all_eq_true.mp hfb p hp)).1
            have hlen : (l.map (nth 0)).length ≤ 1000 := by rw [List.length_map]; omega
            simp [-List.all_eq_true, -List.any_eq_true, -List.all_eq_false, -List.any_eq_false, r_law_rises (.inl rfl) hlen (by decide : 0 < 2) hk, housesB, h1, h4, hq2.2, hfb]
end Pb
end

section
set_option Elab.async false
set_option linter.all false
set_option maxRecDepth 100000
/-! # What the law draws -/
namespace Pb
open PySem
/-- data as the law draws it: small, of this depth at most -/
def Fine (z : Nat) : Nat → PyData → Prop
  | _, .none => True
  | _, .bool _ => True
  | _, .int i => i.natAbs ≤ 10 ^ 40 + z
  | _, .str x => x.length ≤ 1000
  | n + 1, .list l => l.length ≤ 100 + z ∧ ∀ d ∈ l, Fine z n d
  | n + 1, .tuple l => l.length ≤ 100 + z ∧ ∀ d ∈ l, Fine z n d
  | _, _ => False
theorem Fine.ok : ∀ {m n z : Nat} {d : PyData}, Fine z n d → okN m d = true
  | m, n, z, d, h => by
    have h0 : okD d = true := by
      cases d <;> first | rfl | skip
      · rename_i x
        have : x.length ≤ 1000 := by cases n <;> exact h
        exact decide_eq_true (Nat.le_trans this (by decide))
      · cases n <;> exact h.elim
    cases m with
    | zero => exact h0
    | succ m =>
      refine Bool.and_eq_true_iff.mpr ⟨h0, ?_⟩
      cases d <;> first | rfl | skip
      · cases n with
        | zero => exact h.elim
        | succ n => exact List.all_eq_true.mpr fun x hx => Fine.ok (h.2 x hx)
      · cases n with
        | zero => exact h.elim
        | succ n => exact List.all_eq_true.mpr fun x hx => Fine.ok (h.2 x hx)
theorem Fine.plain {n z : Nat} {d : PyData} (h : Fine z n d) : plainB d = true := okD_plain (okN_D (h.ok (m := 0)))
theorem Fine.mono : ∀ {n m z y : Nat} {d : PyData}, n ≤ m → z ≤ y → Fine z n d → Fine y m d
  | n, m, z, y, d, hn, hz, h => by
    cases d with
    | none => cases m <;> trivial
    | bool _ => cases m <;> trivial
    | int i =>
      have : i.natAbs ≤ 10 ^ 40 + z := by cases n <;> exact h
      have : i.natAbs ≤ 10 ^ 40 + y := Nat.le_trans this (Nat.add_le_add_left hz _)
      cases m <;> exact this
    | str x =>
      have : x.length ≤ 1000 := by cases n <;> exact h
      cases m <;> exact this
    | dict _ => cases n <;> exact h.elim
    | list l =>
      cases n with
      | zero => exact h.elim
      | succ n =>
        cases m with
        | zero => omega
        | succ m => exact ⟨Nat.le_trans h.1 (by omega), fun d hd => Fine.mono (by omega) hz (h.2 d hd)⟩
    | tuple l =>
      cases n with
      | zero => exact h.elim
      | succ n =>
        cases m with
        | zero => omega
        | succ m => exact ⟨Nat.le_trans h.1 (by omega), fun d hd => Fine.mono (by omega) hz (h.2 d hd)⟩
/-- a deck behind c draws -/
def Dk (c : Nat) (l : List PyData) : Prop := ∃ a b t : Int, l = [.int a, .int b, .int t] ∧ 0 ≤ b ∧ b < 2147483648 ∧ 0 ≤ t ∧ t ≤ c
theorem Dk.mono {c e : Nat} {l : List PyData} (h : Dk c l) (he : c ≤ e) : Dk e l := by
  obtain ⟨a, b, t, rfl, h1, h2, h3, h4⟩ := h
  exact ⟨a, b, t, rfl, h1, h2, h3, by omega⟩
/-- what a draw leaves -/
def Drawn (c : Nat) (P : PyData → Prop) (x : Vl) (s : Slt) : Prop := ∃ d deck, x = .dat d ∧ P d ∧ s = some (.lnt deck) ∧ Dk c deck
theorem Drawn.mono {c e : Nat} {P : PyData → Prop} {x : Vl} {s : Slt} (h : Drawn c P x s) (he : c ≤ e) : Drawn e P x s := by
  obtain ⟨d, deck, e1, p, e2, hd⟩ := h
  exact ⟨d, deck, e1, p, e2, hd.mono he⟩
theorem outQ_mono {Q R : Vl → Slt → Prop} {io : Bool} {o : Out} {ρ : Rho} (h : outQ Q io o ρ) (i : ∀ x s, Q x s → R x s) : outQ R io o ρ := by
  cases o with
  | nx =>
    rw [outQ_nx] at h ⊢
    cases e : backIo io ρ with
    | none => rw [e] at h; exact h.elim
    | some s => rw [e] at h; exact i _ _ h
  | rt x =>
    rw [outQ_rt] at h ⊢
    cases e : backIo io ρ with
    | none => rw [e] at h; exact h.elim
    | some s => rw [e] at h; exact i _ _ h
theorem g_pick {k c : Nat} {deck : List PyData} {size : Int} (hd : Dk c deck) (hc : c < 1000000000) (hs : 0 < size) (hs2 : size < 1073741824) :
    fnR (prg.at (k + 1)) "_law_pick" [.lnt deck, .dat (.int size)] (Drawn (c + 1) fun d => ∃ i, d = .int i ∧ 0 ≤ i ∧ i < size) := by
  obtain ⟨a, b, t, rfl, h1, h2, h3, h4⟩ := hd
  refine (fnR_run fn__law_pick (by rfl)).mpr ?_
  have hs3 : size.natAbs < 1073741824 := by omega
  have ix0 : L2.ixN 3 0 = some 0 := by decide
  have ix2 : L2.ixN 3 2 = some 2 := by decide
  have at2 : ∀ x y z : PyData, L2.atI [x, y, z] 2 = some z := fun _ _ _ => rfl
  have p1 : (b + 15485867 * (t + 1)).natAbs < 2 ^ 64 := by
    rw [show (2 : Nat) ^ 64 = 18446744073709551616 by decide +kernel]
    omega
  have p2 : ((b + 15485867 * (t + 1)) ^ 5 % 2147483647 + 7919 * (t + 1)).natAbs < 2 ^ 64 := by
    rw [show (2 : Nat) ^ 64 = 18446744073709551616 by decide +kernel]
    have := Int.emod_lt_of_pos ((b + 15485867 * (t + 1)) ^ 5) (by decide : (0 : Int) < 2147483647)
    have := Int.emod_nonneg ((b + 15485867 * (t + 1)) ^ 5) (by decide : (2147483647 : Int) ≠ 0)
    omega
  simp [-List.all_eq_true, -List.any_eq_true, -List.all_eq_false, -List.any_eq_false, f__law_pick, hs, hs3, ix0]
  split
  · exact ⟨_, _, rfl, ⟨_, rfl, Int.emod_nonneg _ (by omega), Int.emod_lt_of_pos _ hs⟩, rfl, _, _, _, rfl, h1, h2, h3, by omega⟩
  · simp [-List.all_eq_true, -List.any_eq_true, -List.all_eq_false, -List.any_eq_false, at2, ix2, p1, p2, hs]
    exact ⟨_, _, rfl, ⟨_, rfl, Int.emod_nonneg _ (by omega), Int.emod_lt_of_pos _ hs⟩, rfl, _, _, _, rfl, h1, h2, by omega, by omega⟩
/-- a draw in the course of a body -/
theorem io_drawn {C : Ctx} {f : Str} {as : List Vl} {c i : Nat} {P : PyData → Prop} {Q : PyData → Rho → Prop} {ρ : Rho} (h : fnR C f as (Drawn c P)) (q : ∀ d deck, P d → Dk c deck → wrQ (Q d) i deck ρ ρ[i]?) : fnR C f as (ioQ Q i ρ) :=
  h.mono fun _ _ ⟨d, deck, e1, p, e2, hd⟩ => by
    subst e1 e2
    exact q d deck p hd
theorem g_one {k c : Nat} {deck l : List PyData} {P : PyData → Prop} (hd : Dk c deck) (hc : c < 1000000000) (hl : 0 < l.length) (hl2 : l.length < 1000) (hP : ∀ x ∈ l, P x) :
    fnR (prg.at (k + 2)) "_law_one" [.lnt deck, .dat (.list l)] (Drawn (c + 1) P) := by
  refine (fnR_run fn__law_one (by rfl)).mpr ?_
  simp [-List.all_eq_true, -List.any_eq_true, -List.all_eq_false, -List.any_eq_false, f__law_one]
  refine io_drawn (g_pick hd hc (by omega) (by omega)) ?_
  rintro _ deck' ⟨i, rfl, h0, h1⟩ hd'
  obtain ⟨m, rfl⟩ : ∃ m : Nat, i = m := ⟨i.toNat, by omega⟩
  have hm : m < l.length := by omega
  simp [-List.all_eq_true, -List.any_eq_true, -List.all_eq_false, -List.any_eq_false, atI_nat, List.getElem?_eq_getElem hm]
  exact ⟨_, _, rfl, hP _ (List.getElem_mem hm), rfl, hd'⟩
theorem atI_mem {l : List PyData} {i : Int} (h0 : 0 ≤ i) (h1 : i < l.length) : ∃ d, L2.atI l i = some d ∧ d ∈ l := by
  obtain ⟨m, rfl⟩ : ∃ m : Nat, i = m := ⟨i.toNat, by omega⟩
  have hm : m < l.length := by omega
  exact ⟨l[m], by rw [atI_nat, List.getElem?_eq_getElem hm], List.getElem_mem hm⟩
/-- one out of a written list -/
theorem io_one {C : Ctx} {f : Str} {as : List Vl} {c i : Nat} {size : Int} {l : List PyData} {P : PyData → Prop} {Q : PyData → Rho → Prop} {ρ : Rho} (hl : (l.length : Int) = size) (hP : ∀ x ∈ l, P x) (h : fnR C f as (Drawn c fun d => ∃ i, d = .int i ∧ 0 ≤ i ∧ i < size))
    (q : ∀ d deck, P d → Dk c deck → wrQ (Q d) i deck ρ ρ[i]?) : fnR C f as (ioQ (fun j => wp (ofO (opIdx (.list l) j)) Q) i ρ) := by
  refine io_drawn h ?_
  rintro _ deck ⟨j, rfl, h0, h1⟩ hd
  obtain ⟨d, e, hm⟩ := atI_mem (l := l) h0 (by omega)
  have e2 : wp (ofO (some d)) Q = Q d := funext fun _ => propext wp_some
  rw [opIdx_l, e, e2]
  exact q d deck (hP d hm) hd
def fineB (z : Nat) : Nat → PyData → Bool
  | _, .none => true
  | _, .bool _ => true
  | _, .int i => Nat.ble i.natAbs (10 ^ 40 + z)
  | _, .str x => Nat.ble x.length 1000
  | n + 1, .list l => Nat.ble l.length (100 + z) && l.all (fineB z n)
  | n + 1, .tuple l => Nat.ble l.length (100 + z) && l.all (fineB z n)
  | _, _ => false
theorem fineB_ok : ∀ {n z : Nat} {d : PyData}, fineB z n d = true → Fine z n d
  | n, z, .none, _ => by cases n <;> trivial
  | n, z, .bool _, _ => by cases n <;> trivial
  | n, z, .int i, h => by cases n <;> exact Nat.le_of_ble_eq_true h
  | n, z, .str x, h => by cases n <;> exact Nat.le_of_ble_eq_true h
  | 0, z, .list l, h => by cases h
  | 0, z, .tuple l, h => by cases h
  | n, z, .dict l, h => by cases n <;> cases h
  | n + 1, z, .list l, h => ⟨Nat.le_of_ble_eq_true (Bool.and_eq_true_iff.mp h).1, fun d hd => fineB_ok (List.all_eq_true.mp (Bool.and_eq_true_iff.mp h).2 d hd)⟩
  | n + 1, z, .tuple l, h => ⟨Nat.le_of_ble_eq_true (Bool.and_eq_true_iff.mp h).1, fun d hd => fineB_ok (List.all_eq_true.mp (Bool.and_eq_true_iff.mp h).2 d hd)⟩
theorem fines {z n : Nat} {l : List PyData} (h : l.all (fineB z n) = true) : ∀ x ∈ l, Fine z n x := fun x hx => fineB_ok (List.all_eq_true.mp h x hx)
theorem Fine.none {z n : Nat} : Fine z n .none := by cases n <;> trivial
theorem Fine.bool {z n : Nat} {b : Bool} : Fine z n (.bool b) := by cases n <;> trivial
theorem fine_int {z n : Nat} {i : Int} : Fine z n (.int i) ↔ i.natAbs ≤ 10 ^ 40 + z := by cases n <;> exact Iff.rfl
theorem fine_str {z n : Nat} {x : Str} : Fine z n (.str x) ↔ x.length ≤ 1000 := by cases n <;> exact Iff.rfl
theorem g_odd {k c : Nat} {deck : List PyData} (hd : Dk c deck) (hc : c < 1000000000) : fnR (prg.at (k + 3)) "_law_odd" [.lnt deck] (Drawn (c + 1) (Fine 0 8)) := by
  refine (fnR_run fn__law_odd (by rfl)).mpr ?_
  simp [-List.all_eq_true, -List.any_eq_true, -List.all_eq_false, -List.any_eq_false, f__law_odd, lim]
  refine io_drawn (P := Fine 0 8) (g_one hd hc (by decide) (by decide) (fines (by decide +kernel))) ?_
  intro d deck' hf hd'
  simp [-List.all_eq_true, -List.any_eq_true, -List.all_eq_false, -List.any_eq_false]
  exact ⟨_, _, rfl, hf, rfl, hd'⟩
theorem drawn_mk {c e : Nat} {P R : PyData → Prop} {d : PyData} {deck : List PyData} (hP : P d) (hd : Dk e deck) (he : e ≤ c) : Drawn c P (.dat d) (some (.lnt deck)) := ⟨d, deck, rfl, hP, rfl, hd.mono he⟩
theorem log2_small {i z : Nat} (h : i ≤ 10 ^ 40 + z) (hz : z ≤ 1000) : i.log2 < 200 := by
  by_cases h0 : i = 0
  · subst h0; decide
  · refine (Nat.log2_lt h0).mpr (Nat.lt_of_le_of_lt h (Nat.lt_of_le_of_lt (Nat.add_le_add_left hz _) (by decide +kernel)))
theorem str_small {i : Int} {z : Nat} (h : i.natAbs ≤ 10 ^ 40 + z) (hz : z ≤ 1000) : i.natAbs.log2 < 1920 ∧ (toString i : Str).length ≤ 1000 := by
  have h1 := log2_small h hz
  refine ⟨Nat.lt_trans h1 (by decide), ?_⟩
  have h2 := int_text_length_le (a := i) (k := 200) (by decide) h1
  show (Str.ofString (toString i)).length ≤ 1000
  rw [ofString_length]
  omega
/-- a tuple or a list with its parts -/
theorem fine_seq {n z : Nat} {d : PyData} {l : List PyData} (hd : d = .list l ∨ d = .tuple l) : Fine z (n + 1) d ↔ l.length ≤ 100 + z ∧ ∀ x ∈ l, Fine z n x := by
  rcases hd with rfl | rfl <;> exact Iff.rfl
theorem spoilt_tail {C : Ctx} {P : Nat} {n k c z : Nat} {d : PyData} {l deck : List PyData} (hq : d = .list l ∨ d = .tuple l) (hf : Fine z (n + 1) d) (hz : z ≤ 100) (hd : Dk c deck) (hc : c < 100000000) :
    wp (exs (prg.at (k + 1)) f__law_spoilt.body.tl) (outQ (Drawn (c + 1) (Fine (z + 1) (n + 1))) true) [some (.lnt deck), some (.dat d), none, none, none] := by
  have hl := (fine_seq hq).mp hf
  have hm : ∀ x ∈ l, Fine (z + 1) n x := fun x hx => (hl.2 x hx).mono (Nat.le_refl _) (Nat.le_succ _)
  have hlen : l.length + min 1 l.length ≤ lim := by
    have : l.length + min 1 l.length ≤ 1000 := by omega
    exact Nat.le_trans this (by decide)
  have f0 : ∀ {e : PyData} {m : List PyData}, (e = .list m ∨ e = .tuple m) → m.length ≤ l.length + 1 → (∀ x ∈ m, x ∈ l) → Fine (z + 1) (n + 1) e := fun he h1 h2 => (fine_seq he).mpr ⟨by omega, fun x hx => hm x (h2 x hx)⟩
  have f2 : ∀ x ∈ l ++ l.take 1, x ∈ l := fun x hx => by
    rcases List.mem_append.mp hx with h | h
    · exact h
    · exact List.mem_of_mem_take h
  have f2l : (l ++ l.take 1).length ≤ l.length + 1 := by rw [List.length_append, List.length_take]; omega
  rcases hq with rfl | rfl
  all_goals
    simp [-List.all_eq_true, -List.any_eq_true, -List.all_eq_false, -List.any_eq_false, f__law_spoilt, RSs.tl, hlen]
    refine ⟨by decide, io_one (P := Fine (z + 1) (n + 1)) (by rfl) ?_ (g_pick hd (by omega) (by decide) (by decide)) fun d deck' hP hd' => ?_⟩
    · intro x hx
      simp only [List.mem_cons, List.not_mem_nil, or_false] at hx
      rcases hx with rfl | rfl | rfl | rfl | rfl
      · first | exact f0 (.inr rfl) (Nat.le_succ _) (fun _ h => h) | exact f0 (.inl rfl) (Nat.le_succ _) (fun _ h => h)
      · first | exact f0 (.inl rfl) f2l f2 | exact f0 (.inr rfl) f2l f2
      · have g1 : l.tail.length ≤ l.length + 1 := by rw [List.length_tail]; omega
        first | exact f0 (.inl rfl) g1 (fun _ h => List.mem_of_mem_tail h) | exact f0 (.inr rfl) g1 (fun _ h => List.mem_of_mem_tail h)
      · have g1 : l.reverse.length ≤ l.length + 1 := by rw [List.length_reverse]; omega
        first | exact f0 (.inl rfl) g1 (fun _ h => List.mem_reverse.mp h) | exact f0 (.inr rfl) g1 (fun _ h => List.mem_reverse.mp h)
      · exact Fine.none
    · simp [-List.all_eq_true, -List.any_eq_true, -List.all_eq_false, -List.any_eq_false]
      exact drawn_mk (R := Fine z n) hP hd' (by omega)
theorem fine_set {z n : Nat} {l : List PyData} {i : Nat} {d : PyData} (h : ∀ x ∈ l, Fine z n x) (hd : Fine z n d) : ∀ x ∈ l.set i d, Fine z n x := fun x hx => by
  rcases List.mem_or_eq_of_mem_set hx with h1 | rfl
  · exact h x h1
  · exact hd
theorem spoilt_seq {n k c z : Nat} {d : PyData} {l deck : List PyData} (IH : ∀ {c : Nat} {deck : List PyData} {d : PyData}, Dk c deck → c + 3 * n < 100000000 → Fine z n d → fnR (prg.at (k + n + 2)) "_law_spoilt" [.lnt deck, .dat d] (Drawn (c + 3 * n + 1) (Fine (z + 1) n)))
    (hq : d = .list l ∨ d = .tuple l) (hf : Fine z (n + 1) d) (hz : z ≤ 100) (hd : Dk c deck) (hc : c + 3 * (n + 1) < 100000000) :
    fnR (prg.at (k + (n + 1) + 2)) "_law_spoilt" [.lnt deck, .dat d] (Drawn (c + 3 * (n + 1) + 1) (Fine (z + 1) (n + 1))) := by
  refine (fnR_run fn__law_spoilt (by rcases hq with rfl | rfl <;> rfl)).mpr ?_
  have hl := (fine_seq hq).mp hf
  have hm : ∀ x ∈ l, Fine (z + 1) n x := fun x hx => (hl.2 x hx).mono (Nat.le_refl _) (Nat.le_succ _)
  rw [show f__law_spoilt.body = .cons f__law_spoilt.body.hd f__law_spoilt.body.tl from rfl, wp_exs_cons]
  refine wp.mono (Q := fun o ρ' => (o = .nx ∧ ∃ deck', Dk (c + 1) deck' ∧ ρ' = [some (.lnt deck'), some (.dat d), none, none, none]) ∨ (∃ x, o = .rt x ∧ outQ (Drawn (c + 3 * (n + 1) + 1) (Fine (z + 1) (n + 1))) true (.rt x) ρ')) ?_ ?_
  · cases hl0 : l with
    | nil =>
      subst hl0
      rcases hq with rfl | rfl
      all_goals
        simp [-List.all_eq_true, -List.any_eq_true, -List.all_eq_false, -List.any_eq_false, f__law_spoilt, RSs.hd]
        exact hd.mono (Nat.le_succ _)
    | cons a r =>
      have hpos : 0 < (l.length : Int) := by rw [hl0]; simp [-List.all_eq_true, -List.any_eq_true, -List.all_eq_false, -List.any_eq_false]
      have hpos' : 0 < l.length := by omega
      rcases hq with rfl | rfl
      all_goals
        simp [-List.all_eq_true, -List.any_eq_true, -List.all_eq_false, -List.any_eq_false, f__law_spoilt, RSs.hd, hpos']
        refine io_drawn (g_pick hd (by omega) (by decide) (by decide)) ?_
        rintro _ deck1 ⟨i, rfl, h0, h1⟩ hd1
        simp [-List.all_eq_true, -List.any_eq_true, -List.all_eq_false, -List.any_eq_false]
        by_cases hi : 0 < i
        · simp [-List.all_eq_true, -List.any_eq_true, -List.all_eq_false, -List.any_eq_false, hi]
          refine io_drawn (g_pick hd1 (by omega) hpos (by omega)) ?_
          rintro _ deck2 ⟨j, rfl, h2, h3⟩ hd2
          obtain ⟨m, rfl⟩ : ∃ m : Nat, j = m := ⟨j.toNat, by omega⟩
          have hm2 : m < l.length := by omega
          simp [-List.all_eq_true, -List.any_eq_true, -List.all_eq_false, -List.any_eq_false, atI_nat, List.getElem?_eq_getElem hm2]
          refine io_drawn (IH hd2 (by omega) (hl.2 _ (List.getElem_mem hm2))) ?_
          intro y deck3 hy hd3
          have ix : L2.ixN l.length (m : Int) = some m := by
            unfold L2.ixN
            rw [if_pos (by omega), if_pos (by omega)]
            rfl
          simp [-List.all_eq_true, -List.any_eq_true, -List.all_eq_false, -List.any_eq_false, ix]
          refine drawn_mk (R := Fine z n) ?_ hd3 (by omega)
          first
            | exact (fine_seq (.inl rfl)).mpr ⟨by rw [List.length_set]; omega, fine_set hm hy⟩
            | exact (fine_seq (.inr rfl)).mpr ⟨by rw [List.length_set]; omega, fine_set hm hy⟩
        · simp [-List.all_eq_true, -List.any_eq_true, -List.all_eq_false, -List.any_eq_false, hi]
          exact hd1
  · rintro o ρ' (⟨rfl, deck', hd', rfl⟩ | ⟨x, rfl, h⟩)
    · exact (spoilt_tail (C := prg.at 0) (P := 0) (k := k + n + 1) hq hf hz hd' (by omega)).mono fun o ρ h => by
        exact outQ_mono h fun x s h => h.mono (by omega)
    · exact h
theorem g_spoilt : ∀ {n k c z : Nat} {deck : List PyData} {d : PyData}, Dk c deck → c + 3 * n < 100000000 → Fine z n d → z ≤ 100 → fnR (prg.at (k + n + 2)) "_law_spoilt" [.lnt deck, .dat d] (Drawn (c + 3 * n + 1) (Fine (z + 1) n))
  | n, k, c, z, deck, .none, hd, hc, hf, hz => by
    refine (fnR_run fn__law_spoilt (by rfl)).mpr ?_
    simp [-List.all_eq_true, -List.any_eq_true, -List.all_eq_false, -List.any_eq_false, f__law_spoilt, lim]
    refine io_one (P := Fine (z + 1) n) (by decide) (fun x hx => (fines (z := 0) (n := 0) (by decide +kernel) x hx).mono (Nat.zero_le _) (Nat.zero_le _)) (g_pick hd (by omega) (by decide) (by decide)) fun d deck' hP hd' => ?_
    simp [-List.all_eq_true, -List.any_eq_true, -List.all_eq_false, -List.any_eq_false]
    exact drawn_mk (R := Fine z n) hP hd' (by omega)
  | n, k, c, z, deck, .str s, hd, hc, hf, hz => by
    refine (fnR_run fn__law_spoilt (by rfl)).mpr ?_
    simp [-List.all_eq_true, -List.any_eq_true, -List.all_eq_false, -List.any_eq_false, f__law_spoilt, lim]
    refine io_one (P := Fine (z + 1) n) (by decide) (fun x hx => (fines (z := 0) (n := 0) (by decide +kernel) x hx).mono (Nat.zero_le _) (Nat.zero_le _)) (g_pick hd (by omega) (by decide) (by decide)) fun d deck' hP hd' => ?_
    simp [-List.all_eq_true, -List.any_eq_true, -List.all_eq_false, -List.any_eq_false]
    exact drawn_mk (R := Fine z n) hP hd' (by omega)
  | n, k, c, z, deck, .bool b, hd, hc, hf, hz => by
    refine (fnR_run fn__law_spoilt (by rfl)).mpr ?_
    simp [-List.all_eq_true, -List.any_eq_true, -List.all_eq_false, -List.any_eq_false, f__law_spoilt, lim]
    refine io_one (P := Fine (z + 1) n) (by rfl) ?_ (g_pick hd (by omega) (by decide) (by decide)) fun d deck' hP hd' => ?_
    · cases b <;> exact (fun x hx => (fines (z := 0) (n := 0) (by decide +kernel) x hx).mono (Nat.zero_le _) (Nat.zero_le _))
    · simp [-List.all_eq_true, -List.any_eq_true, -List.all_eq_false, -List.any_eq_false]
      exact drawn_mk (R := Fine z n) hP hd' (by omega)
  | n, k, c, z, deck, .int i, hd, hc, hf, hz => by
    refine (fnR_run fn__law_spoilt (by rfl)).mpr ?_
    have hi := fine_int.mp hf
    have hs := str_small hi (by omega)
    simp [-List.all_eq_true, -List.any_eq_true, -List.all_eq_false, -List.any_eq_false, f__law_spoilt, hs.1, lim]
    refine io_one (P := Fine (z + 1) n) (by rfl) ?_ (g_pick hd (by omega) (by decide) (by decide)) fun d deck' hP hd' => ?_
    · have e40 : 1000001 ≤ (10 : Nat) ^ 40 := by decide +kernel
      have a1 : (i + 1).natAbs ≤ 10 ^ 40 + (z + 1) := by
        generalize (10 : Nat) ^ 40 = w at *
        omega
      have a2 : (i - 1).natAbs ≤ 10 ^ 40 + (z + 1) := by
        generalize (10 : Nat) ^ 40 = w at *
        omega
      have a3 : ∀ j : Int, j.natAbs ≤ 1000001 → j.natAbs ≤ 10 ^ 40 + (z + 1) := fun j hj => by
        generalize (10 : Nat) ^ 40 = w at *
        omega
      intro x hx
      simp only [List.mem_cons, List.not_mem_nil, or_false] at hx
      rcases hx with rfl | rfl | rfl | rfl | rfl | rfl | rfl
      · exact fine_int.mpr a1
      · exact fine_int.mpr a2
      · exact Fine.bool
      · exact Fine.none
      · exact fine_int.mpr (a3 _ (by decide))
      · exact fine_int.mpr (a3 _ (by decide))
      · exact fine_str.mpr hs.2
    · simp [-List.all_eq_true, -List.any_eq_true, -List.all_eq_false, -List.any_eq_false]
      exact drawn_mk (R := Fine z n) hP hd' (by omega)
  | 0, _, _, _, _, .list _, _, _, hf, _ => hf.elim
  | 0, _, _, _, _, .tuple _, _, _, hf, _ => hf.elim
  | 0, _, _, _, _, .dict _, _, _, hf, _ => hf.elim
  | _ + 1, _, _, _, _, .dict _, _, _, hf, _ => hf.elim
  | n + 1, k, c, z, deck, .list l, hd, hc, hf, hz => spoilt_seq (fun hd hc hf => g_spoilt hd hc hf hz) (.inl rfl) hf hz hd hc
  | n + 1, k, c, z, deck, .tuple l, hd, hc, hf, hz => spoilt_seq (fun hd hc hf => g_spoilt hd hc hf hz) (.inr rfl) hf hz hd hc
end Pb
end

section
set_option Elab.async false
set_option linter.all false
set_option maxRecDepth 100000
/-! # The houses that the law draws -/
namespace Pb
open PySem
theorem fine_small {z n : Nat} {i : Int} (h : i.natAbs ≤ 1000000) : Fine z n (.int i) := by
  refine fine_int.mpr ?_
  have e40 : 1000001 ≤ (10 : Nat) ^ 40 := by decide +kernel
  generalize (10 : Nat) ^ 40 = w at *
  omega
theorem g_worth {k c : Nat} {deck : List PyData} (hd : Dk c deck) (hc : c < 100000000) : fnR (prg.at (k + 3)) "_law_worth" [.lnt deck] (Drawn (c + 2) (Fine 0 0)) := by
  refine (fnR_run fn__law_worth (by rfl)).mpr ?_
  simp [-List.all_eq_true, -List.any_eq_true, -List.all_eq_false, -List.any_eq_false, f__law_worth]
  refine io_drawn (g_pick hd (by omega) (by decide) (by decide)) ?_
  rintro _ deck1 ⟨i, rfl, h0, h1⟩ hd1
  simp [-List.all_eq_true, -List.any_eq_true, -List.all_eq_false, -List.any_eq_false, lim]
  refine io_drawn (P := Fine 0 0) (g_one hd1 (by omega) (by simp [-List.all_eq_true, -List.any_eq_true, -List.all_eq_false, -List.any_eq_false]) (by simp [-List.all_eq_true, -List.any_eq_true, -List.all_eq_false, -List.any_eq_false]) ?_) ?_
  · intro x hx
    simp only [List.mem_cons, List.not_mem_nil, or_false] at hx
    rcases hx with rfl | rfl | rfl | rfl | rfl | rfl | rfl | rfl | rfl
    all_goals first | exact fineB_ok (by decide +kernel) | exact fine_small (by omega)
  · intro d deck2 hP hd2
    simp [-List.all_eq_true, -List.any_eq_true, -List.all_eq_false, -List.any_eq_false]
    exact drawn_mk (R := Fine 0 0) hP hd2 (by omega)
theorem rng_len : ∀ (n : Nat) (lo : Int), (rngL lo n).length = n
  | 0, _ => rfl
  | n + 1, lo => congrArg Nat.succ (rng_len n (lo + 1))
def houI (c : Nat) (most rm : Int) (n : Nat) (ρ : Rho) : Prop := ∃ dk found a4 a5 a6 a7, Dk (c + 1 + n * 1000) dk ∧ List.length found ≤ n ∧ (∀ x ∈ found, Fine 0 5 x) ∧ dS a4 ∧ dS a5 ∧ dS a6 ∧ dS a7 ∧
  ρ = [some (Vl.lnt dk), some (.dat (.int most)), some (.dat (.int rm)), some (.lst found), a4, a5, a6, a7, none]
def colI (c : Nat) (most rm : Int) (found : List PyData) (d : PyData) (a5 a6 a7 : Slt) (n : Nat) (ρ : Rho) : Prop := ∃ dk, Dk (c + n) dk ∧ ρ = [some (Vl.lnt dk), some (.dat (.int most)), some (.dat (.int rm)), some (.lst found), some (.dat d), a5, a6, a7, none]
def rowI (c : Nat) (most rm : Int) (found : List PyData) (d : PyData) (cols : List PyData) (n : Nat) (ρ : Rho) : Prop := ∃ dk rows a7, Dk (c + n * 10) dk ∧ List.length rows ≤ n ∧ (∀ x ∈ rows, Fine 0 2 x) ∧ dS a7 ∧
  ρ = [some (Vl.lnt dk), some (.dat (.int most)), some (.dat (.int rm)), some (.lst found), some (.dat d), some (.dat (.tuple cols)), some (.lst rows), a7, none]
def worI (c : Nat) (most rm : Int) (found : List PyData) (d : PyData) (cols rows : List PyData) (j : Int) (n : Nat) (ρ : Rho) : Prop := ∃ dk, Dk (c + n * 2) dk ∧
  ρ = [some (Vl.lnt dk), some (.dat (.int most)), some (.dat (.int rm)), some (.lst found), some (.dat d), some (.dat (.tuple cols)), some (.lst rows), some (.dat (.int j)), none]
def HouP (d : PyData) : Prop := ∃ l, d = .tuple l ∧ List.length l ≤ 4 ∧ ∀ x ∈ l, Fine 0 5 x
theorem g_houses {k c : Nat} {deck : List PyData} {most rm : Int} (hd : Dk c deck) (hc : c < 10000000) (h1 : 0 < most) (h2 : most ≤ 4) (h3 : 0 ≤ rm) (h4 : rm ≤ 20) : fnR (prg.at (k + 4)) "_law_houses" [.lnt deck, .dat (.int most), .dat (.int rm)] (Drawn (c + 10000) HouP) := by
  refine (fnR_run fn__law_houses (by rfl)).mpr ?_
  simp [-List.all_eq_true, -List.any_eq_true, -List.all_eq_false, -List.any_eq_false, f__law_houses, lim]
  refine io_drawn (g_pick hd (by omega) (by omega) (by omega)) ?_
  rintro _ deck1 ⟨i, rfl, hi0, hi1⟩ hd1
  obtain ⟨m, rfl⟩ : ∃ m : Nat, i = m := ⟨i.toNat, by omega⟩
  have ecut : ∀ l : List PyData, cutD l none (some (1 + (m : Int))) = l.take (1 + m) := fun l => by
    have := cut_to l (1 + m)
    rwa [Int.natCast_add] at this
  simp [-List.all_eq_true, -List.any_eq_true, -List.all_eq_false, -List.any_eq_false, ecut]
  have hnames : ∀ x ∈ List.take (1 + m) [PyData.str "ann", .str "bo", .str "cy", .str "dee"], Fine 0 0 x := fun x hx => fines (z := 0) (n := 0) (l := [PyData.str "ann", .str "bo", .str "cy", .str "dee"]) (by decide +kernel) x (List.mem_of_mem_take hx)
  have hlen4 : (List.take (1 + m) [PyData.str "ann", .str "bo", .str "cy", .str "dee"]).length ≤ 4 := by
    rw [List.length_take]
    exact Nat.min_le_right _ _
  generalize List.take (1 + m) [PyData.str "ann", .str "bo", .str "cy", .str "dee"] = names at *
  refine wp_for (houI c most rm) names 0 _ ⟨deck1, [], none, none, none, none, hd1, Nat.le_refl _, fun _ h => (by cases h), trivial, trivial, trivial, trivial, rfl⟩ ?_ ?_
  · rintro d hdm n ρ hn ⟨dk, found, a4, a5, a6, a7, hdk, hfl, hff, s4, s5, s6, s7, rfl⟩
    have hn4 : n < 4 := by omega
    simp [-List.all_eq_true, -List.any_eq_true, -List.all_eq_false, -List.any_eq_false, putQ_dS s4, lim]
    refine wp_lcI (colI (c + 1 + n * 1000) most rm found d a5 a6 a7) (Fine 0 0) ?_ ?_ ?_ ?_
    · simp [-List.all_eq_true, -List.any_eq_true, -List.all_eq_false, -List.any_eq_false]
    · exact ⟨dk, hdk, by simp [-List.all_eq_true, -List.any_eq_true, -List.all_eq_false, -List.any_eq_false]⟩
    · rintro e hem n' ρ hn' ⟨dk', hdk', rfl⟩
      have hn5 : n' < 4 := hn'
      simp [-List.all_eq_true, -List.any_eq_true, -List.all_eq_false, -List.any_eq_false, lcB]
      refine io_drawn (g_pick hdk' (by omega) (by decide) (by decide)) ?_
      rintro _ dk2 ⟨j, rfl, hj0, hj1⟩ hd2
      have he : Fine 0 0 e := fines (z := 0) (n := 0) (by decide +kernel) e hem
      by_cases hj : 0 < j
      · simp [-List.all_eq_true, -List.any_eq_true, -List.all_eq_false, -List.any_eq_false, hj]
        exact ⟨he, _, hd2, rfl⟩
      · simp [-List.all_eq_true, -List.any_eq_true, -List.all_eq_false, -List.any_eq_false, hj]
        exact ⟨_, hd2, rfl⟩
    · rintro cols ρ' hcf hcl ⟨dk', hdk', rfl⟩
      have hcl4 : cols.length ≤ 4 := hcl
      have hdk4 : Dk (c + 1 + n * 1000 + 4) dk' := hdk'
      simp [-List.all_eq_true, -List.any_eq_true, -List.all_eq_false, -List.any_eq_false, putQ_dS s5]
      have key : ∀ cols : List PyData, cols.length ≤ 4 → (∀ x ∈ cols, Fine 0 0 x) → wp (exs (prg.at (k + 3)) (match f__law_houses.body.tl.hd with | .for _ _ b => b.tl.tl | _ => .nil)) (fun o ρ' => o = .nx ∧ houI c most rm (n + 1) ρ')
          [some (.lnt dk'), some (.dat (.int most)), some (.dat (.int rm)), some (.lst found), some (.dat d), some (.dat (.tuple cols)), a6, a7, none] := by
        intro cols hc4 hcf
        simp [-List.all_eq_true, -List.any_eq_true, -List.all_eq_false, -List.any_eq_false, f__law_houses, RSs.hd, RSs.tl, putQ_dS s6, lim]
        refine io_drawn (g_pick hdk4 (by omega) (by omega) (by omega)) ?_
        rintro _ dk5 ⟨q, rfl, hq0, hq1⟩ hd5
        simp [-List.all_eq_true, -List.any_eq_true, -List.all_eq_false, -List.any_eq_false, rngOf_small (lo := 0) (hi := q) (by omega) (by omega) (by omega) (by omega)]
        have hqn : q.toNat ≤ 20 := by omega
        refine wp_for (rowI (c + 1 + n * 1000 + 5) most rm found d cols) (rngL 0 q.toNat) 0 _ ⟨dk5, [], a7, hd5, Nat.le_refl _, fun _ h => (by cases h), s7, rfl⟩ ?_ ?_
        · rintro e hem n2 ρ hn2 ⟨dk6, rows, b7, hd6, hrl, hrf, t7, rfl⟩
          obtain ⟨j, rfl, hj0, hj1⟩ := rngL_mem hem
          rw [rng_len] at hn2
          have hmul : (3 : Int).natAbs < 2 ^ 64 ∨ j.natAbs < 2 ^ 64 := .inl (by decide +kernel)
          simp [-List.all_eq_true, -List.any_eq_true, -List.all_eq_false, -List.any_eq_false, putQ_dS t7]
          refine io_drawn (g_pick hd6 (by omega) (by decide) (by decide)) ?_
          rintro _ dk7 ⟨i2, rfl, hi20, hi21⟩ hd7
          simp [-List.all_eq_true, -List.any_eq_true, -List.all_eq_false, -List.any_eq_false]
          refine wp_lcI (worI (c + 1 + n * 1000 + 5 + n2 * 10 + 1) most rm found d cols rows j) (Fine 0 0) ?_ ?_ ?_ ?_
          · simp [-List.all_eq_true, -List.any_eq_true, -List.all_eq_false, -List.any_eq_false]
          · exact ⟨dk7, hd7, by simp [-List.all_eq_true, -List.any_eq_true, -List.all_eq_false, -List.any_eq_false]⟩
          · rintro e hem n' ρ hn' ⟨dk', hdk', rfl⟩
            simp [-List.all_eq_true, -List.any_eq_true, -List.all_eq_false, -List.any_eq_false, lcB]
            refine io_drawn (g_worth hdk' (by omega)) ?_
            intro w dk8 hw hd8
            simp [-List.all_eq_true, -List.any_eq_true, -List.all_eq_false, -List.any_eq_false]
            exact ⟨hw, _, hd8.mono (by omega), rfl⟩
          · rintro ws ρ' hwf hwl ⟨dk', hdk', rfl⟩
            have hrl2 : rows.length < lim := Nat.lt_of_le_of_lt (by omega : rows.length ≤ 100) (by decide)
            simp [-List.all_eq_true, -List.any_eq_true, -List.all_eq_false, -List.any_eq_false, lim]
            simp [-List.all_eq_true, -List.any_eq_true, -List.all_eq_false, -List.any_eq_false, show rows.length < 16777216 from hrl2]
            refine ⟨dk', rows ++ [.tuple [.int (3 * j + i2), .tuple ws]], _, hdk'.mono (by omega), by simp [-List.all_eq_true, -List.any_eq_true, -List.all_eq_false, -List.any_eq_false]; omega, ?_, dS_dat _, rfl⟩
            intro x hx
            rcases List.mem_append.mp hx with h | h
            · exact hrf x h
            · rw [List.mem_singleton.mp h]
              refine (fine_seq (.inr rfl)).mpr ⟨by simp, ?_⟩
              intro y hy
              simp only [List.mem_cons, List.not_mem_nil, or_false] at hy
              rcases hy with rfl | rfl
              · exact fine_small (by omega)
              · exact (fine_seq (.inr rfl)).mpr ⟨by omega, hwf⟩
        · rintro ρ' ⟨dk6, rows, b7, hd6, hrl, hrf, t7, rfl⟩
          rw [rng_len] at hd6 hrl
          have hfl2 : found.length < lim := Nat.lt_of_le_of_lt (by omega : found.length ≤ 100) (by decide)
          simp [-List.all_eq_true, -List.any_eq_true, -List.all_eq_false, -List.any_eq_false, lim]
          simp [-List.all_eq_true, -List.any_eq_true, -List.all_eq_false, -List.any_eq_false, show found.length < 16777216 from hfl2]
          refine ⟨dk6, found ++ [.tuple [d, .tuple [.tuple cols, .tuple rows]]], _, _, _, _, hd6.mono (by omega), by simp [-List.all_eq_true, -List.any_eq_true, -List.all_eq_false, -List.any_eq_false]; omega, ?_, dS_dat _, dS_dat _, dS_dat _, t7, rfl⟩
          intro x hx
          rcases List.mem_append.mp hx with h | h
          · exact hff x h
          · rw [List.mem_singleton.mp h]
            refine (fine_seq (.inr rfl)).mpr ⟨by simp, ?_⟩
            intro y hy
            simp only [List.mem_cons, List.not_mem_nil, or_false] at hy
            rcases hy with rfl | rfl
            · exact (hnames _ hdm).mono (by omega) (by omega)
            · refine (fine_seq (.inr rfl)).mpr ⟨by simp, ?_⟩
              intro y hy
              simp only [List.mem_cons, List.not_mem_nil, or_false] at hy
              rcases hy with rfl | rfl
              · exact (fine_seq (.inr rfl)).mpr ⟨by omega, fun x hx => (hcf x hx).mono (by omega) (by omega)⟩
              · exact (fine_seq (.inr rfl)).mpr ⟨by omega, hrf⟩
      have key2 : ∀ cols : List PyData, cols.length ≤ 4 → (∀ x ∈ cols, Fine 0 0 x) → ∀ R : Out → Rho → Prop, wp (exs (prg.at (k + 3)) (match f__law_houses.body.tl.hd with | .for _ _ b => b.tl.tl | _ => .nil)) (fun o ρ' => (o = .nx ∧ houI c most rm (n + 1) ρ') ∨ R o ρ')
          [some (.lnt dk'), some (.dat (.int most)), some (.dat (.int rm)), some (.lst found), some (.dat d), some (.dat (.tuple cols)), a6, a7, none] := fun cols h1 h2 R => (key cols h1 h2).mono fun _ _ h => .inl h
      cases cols with
      | nil =>
        have := key2 [.str "a"] (by simp [-List.all_eq_true, -List.any_eq_true, -List.all_eq_false, -List.any_eq_false]) (fines (by decide +kernel)) (fun o ρ' => (∃ x, o = Out.rt x) ∧ seqQ (prg.at (k + 3)) (RSs.cons (RS.ret (RE.bi Bi.tuple (RE.var 3))) RSs.nil) (outQ (Drawn (c + 10000) HouP) true) o ρ')
        simp [-List.all_eq_true, -List.any_eq_true, -List.all_eq_false, -List.any_eq_false, f__law_houses, RSs.hd, RSs.tl, putQ_dS s6, lim] at this
        simp [-List.all_eq_true, -List.any_eq_true, -List.all_eq_false, -List.any_eq_false, putQ_dS s6, lim]
        exact this
      | cons x r =>
        have := key2 (x :: r) hcl4 hcf (fun o ρ' => (∃ x, o = Out.rt x) ∧ seqQ (prg.at (k + 3)) (RSs.cons (RS.ret (RE.bi Bi.tuple (RE.var 3))) RSs.nil) (outQ (Drawn (c + 10000) HouP) true) o ρ')
        simp [-List.all_eq_true, -List.any_eq_true, -List.all_eq_false, -List.any_eq_false, f__law_houses, RSs.hd, RSs.tl, putQ_dS s6, lim] at this
        simp [-List.all_eq_true, -List.any_eq_true, -List.all_eq_false, -List.any_eq_false, putQ_dS s6, lim]
        exact this
  · rintro ρ' ⟨dk, found, a4, a5, a6, a7, hdk, hfl, hff, s4, s5, s6, s7, rfl⟩
    simp [-List.all_eq_true, -List.any_eq_true, -List.all_eq_false, -List.any_eq_false]
    refine drawn_mk (R := Fine 0 0) ?_ hdk (by omega)
    exact ⟨found, rfl, by omega, hff⟩
end Pb
end

section
set_option Elab.async false
set_option linter.all false
set_option maxRecDepth 100000
/-! # The law holds of the small program -/
namespace Pb
open PySem
@[simp] theorem r_sort_b {k : Nat} {b : Bool} {Q : Vl → Slt → Prop} : fnR (prg.at (k + 1)) "_law_sort" [.dat (.bool b)] Q ↔ Q (.dat (.int 1)) none := by
  refine fnR_iff ((fnR_run fn__law_sort (by rfl)).mpr ?_)
  simp [-List.all_eq_true, -List.any_eq_true, -List.all_eq_false, -List.any_eq_false, f__law_sort]
@[simp] theorem r_same_b {k : Nat} {a b : Bool} {Q : Vl → Slt → Prop} : fnR (prg.at (k + 2)) "_law_same" [.dat (.bool a), .dat (.bool b)] Q ↔ Q (.dat (.bool (a == b))) none := by
  refine fnR_iff ((fnR_run fn__law_same (by rfl)).mpr ?_)
  simp [-List.all_eq_true, -List.any_eq_true, -List.all_eq_false, -List.any_eq_false, f__law_same]
theorem g_deck {k : Nat} {i : Int} : fnR (prg.at (k + 1)) "_law_deck" [.dat (.int i), .dat (.int 1)] fun x _ => ∃ l, x = .lst l ∧ Dk 1 l := by
  refine (fnR_run fn__law_deck (by rfl)).mpr ?_
  have h1 := Int.emod_nonneg i (by decide : (2147483579 : Int) ≠ 0)
  have h2 := Int.emod_lt_of_pos i (by decide : (0 : Int) < 2147483579)
  simp [-List.all_eq_true, -List.any_eq_true, -List.all_eq_false, -List.any_eq_false, f__law_deck, lim]
  split
  · exact ⟨_, _, _, rfl, h1, by omega, by decide, by decide⟩
  · exact ⟨_, _, _, rfl, h1, by omega, by decide, by decide⟩
theorem fT0 {z n : Nat} : Fine z (n + 1) (.tuple []) := ⟨Nat.zero_le _, fun _ h => (by cases h)⟩
theorem fT1 {z n : Nat} {a : PyData} (ha : Fine z n a) : Fine z (n + 1) (.tuple [a]) := ⟨by simp [-List.all_eq_true, -List.any_eq_true, -List.all_eq_false, -List.any_eq_false]; omega, fun x hx => by rw [List.mem_singleton.mp hx]; exact ha⟩
theorem fT2 {z n : Nat} {a b : PyData} (ha : Fine z n a) (hb : Fine z n b) : Fine z (n + 1) (.tuple [a, b]) := ⟨by simp [-List.all_eq_true, -List.any_eq_true, -List.all_eq_false, -List.any_eq_false]; omega, fun x hx => by
  simp only [List.mem_cons, List.not_mem_nil, or_false] at hx
  rcases hx with rfl | rfl
  · exact ha
  · exact hb⟩
theorem wri_app {c n : Nat} {rows cols names d : PyData} {dk l : List PyData} {a7 a8 : Slt} (hdk : Dk c dk) (hl : l.length ≤ n) (hf : ∀ x ∈ l, Fine 0 6 x) (hd : Fine 0 6 d) (s7 : dS a7) (s8 : dS a8) :
    List.length (l ++ [d]) ≤ n + 1 ∧ ∀ x ∈ l ++ [d], Fine 0 6 x := ⟨by rw [List.length_append]; exact Nat.succ_le_succ hl, fun x hx => by
  rcases List.mem_append.mp hx with h | h
  · exact hf x h
  · rw [List.mem_singleton.mp h]
    exact hd⟩
def wriI (c : Nat) (rows cols names : PyData) (n : Nat) (ρ : Rho) : Prop := ∃ dk l a7 a8, Dk c dk ∧ List.length l ≤ n ∧ (∀ x ∈ l, Fine 0 6 x) ∧ dS a7 ∧ dS a8 ∧
  ρ = [some (Vl.lnt dk), some (.dat rows), none, some (.dat cols), some (.lst l), some (.dat names), none, a7, a8]
theorem g_written {k c : Nat} {deck : List PyData} (hd : Dk c deck) (hc : c < 10000000) : fnR (prg.at (k + 2)) "_law_written" [.lnt deck] (Drawn (c + 3) fun d => ∃ l, d = .list l ∧ List.length l ≤ 30 ∧ ∀ x ∈ l, Fine 0 6 x) := by
  refine (fnR_run fn__law_written (by rfl)).mpr ?_
  simp [-List.all_eq_true, -List.any_eq_true, -List.all_eq_false, -List.any_eq_false, f__law_written, lim]
  refine io_drawn (g_pick hd (by omega) (by decide) (by decide)) ?_
  rintro _ d1 ⟨i1, rfl, hi0, hi1⟩ hd1
  simp [-List.all_eq_true, -List.any_eq_true, -List.all_eq_false, -List.any_eq_false, rngOf_small (lo := 0) (hi := 8 + i1) (by omega) (by omega) (by omega) (by omega)]
  refine wp_lcMap (fun d => .tuple [d, .tuple [d, .none]]) ?_ ?_ ?_
  · simp [-List.all_eq_true, -List.any_eq_true, -List.all_eq_false, -List.any_eq_false]
  · intro d hdm
    simp [-List.all_eq_true, -List.any_eq_true, -List.all_eq_false, -List.any_eq_false]
  · simp [-List.all_eq_true, -List.any_eq_true, -List.all_eq_false, -List.any_eq_false, lim]
    refine io_drawn (g_pick hd1 (by omega) (by decide) (by decide)) ?_
    rintro _ d2 ⟨i2, rfl, hi20, hi21⟩ hd2
    simp [-List.all_eq_true, -List.any_eq_true, -List.all_eq_false, -List.any_eq_false, lim, cut_toI _ (show 0 ≤ 5 + i2 by omega)]
    refine io_drawn (g_pick hd2 (by omega) (by decide) (by decide)) ?_
    rintro _ d3 ⟨i3, rfl, hi30, hi31⟩ hd3
    simp [-List.all_eq_true, -List.any_eq_true, -List.all_eq_false, -List.any_eq_false, lim, cut_toI _ (show 0 ≤ 4 + i3 by omega)]
    have fa : Fine 0 0 (.str "a") := fineB_ok (by decide +kernel)
    have hrows : Fine 0 3 (.tuple ((rngL 0 (8 + i1).toNat).map fun d => .tuple [d, .tuple [d, .none]])) := by
      refine (fine_seq (.inr rfl)).mpr ⟨by rw [List.length_map, rng_len]; omega, ?_⟩
      intro x hx
      obtain ⟨d, hdm, rfl⟩ := List.mem_map.mp hx
      obtain ⟨j, rfl, hj0, hj1⟩ := rngL_mem hdm
      have hj : ∀ n, Fine 0 n (.int j) := fun n => fine_small (by omega)
      refine (fine_seq (.inr rfl)).mpr ⟨by simp, ?_⟩
      intro y hy
      simp only [List.mem_cons, List.not_mem_nil, or_false] at hy
      rcases hy with rfl | rfl
      · exact hj _
      · refine (fine_seq (.inr rfl)).mpr ⟨by simp, ?_⟩
        intro y hy
        simp only [List.mem_cons, List.not_mem_nil, or_false] at hy
        rcases hy with rfl | rfl
        · exact hj _
        · exact Fine.none
    have hcols : Fine 0 1 (.tuple (List.take (5 + i2).toNat [.str "a", .str "b", .str "c", .str "d", .str "e", .str "f"])) := by
      refine (fine_seq (.inr rfl)).mpr ⟨by rw [List.length_take]; exact Nat.le_trans (Nat.min_le_right _ _) (by decide), ?_⟩
      intro x hx
      exact fines (z := 0) (n := 0) (l := [.str "a", .str "b", .str "c", .str "d", .str "e", .str "f"]) (by decide +kernel) x (List.mem_of_mem_take hx)
    have hnam : ∀ x ∈ List.take (4 + i3).toNat [PyData.str "a", .str "b", .str "c", .str "d", .str "e"], Fine 0 0 x := fun x hx =>
      fines (z := 0) (n := 0) (l := [.str "a", .str "b", .str "c", .str "d", .str "e"]) (by decide +kernel) x (List.mem_of_mem_take hx)
    have hnaml : (List.take (4 + i3).toNat [PyData.str "a", .str "b", .str "c", .str "d", .str "e"]).length ≤ 5 := by rw [List.length_take]; exact Nat.min_le_right _ _
    generalize (PyData.tuple ((rngL 0 (8 + i1).toNat).map fun d => .tuple [d, .tuple [d, .none]])) = rows at *
    generalize (PyData.tuple (List.take (5 + i2).toNat [.str "a", .str "b", .str "c", .str "d", .str "e", .str "f"])) = cols at *
    generalize List.take (4 + i3).toNat [PyData.str "a", .str "b", .str "c", .str "d", .str "e"] = names at *
    refine wp_lcMap (fun d => .tuple [d, .tuple [.tuple [.str "a"], .tuple []]]) ?_ ?_ ?_
    · simp [-List.all_eq_true, -List.any_eq_true, -List.all_eq_false, -List.any_eq_false]
    · intro d hdm
      simp [-List.all_eq_true, -List.any_eq_true, -List.all_eq_false, -List.any_eq_false, lim]
    · simp [-List.all_eq_true, -List.any_eq_true, -List.all_eq_false, -List.any_eq_false, lim]
      refine wp_for (fun n => wriI (c + 3) rows cols (.list names) (n + 3)) _ 0 _ ?_ ?_ ?_
      · refine ⟨d3, _, none, none, hd3, ?_, ?_, trivial, trivial, rfl⟩
        · simp [-List.all_eq_true, -List.any_eq_true, -List.all_eq_false, -List.any_eq_false]
        · have fa' : ∀ n, Fine 0 n (.str "a") := fun n => fa.mono (Nat.zero_le _) (Nat.le_refl _)
          have fb : Fine 0 2 (.str "b") := fineB_ok (by decide +kernel)
          intro x hx
          simp only [List.mem_cons, List.not_mem_nil, or_false] at hx
          rcases hx with rfl | rfl | rfl
          · exact fT1 (fT2 (fa' _) (fT2 (fT2 (fa' _) fb) hrows))
          · exact fT1 (fT2 (fa' _) (fT2 (hcols.mono (by omega) (Nat.le_refl _)) fT0))
          · refine (fine_seq (.inr rfl)).mpr ⟨by rw [List.length_map]; omega, ?_⟩
            intro x hx
            obtain ⟨d, hdm, rfl⟩ := List.mem_map.mp hx
            exact fT2 ((hnam d hdm).mono (by omega) (Nat.le_refl _)) (fT2 (fT1 (fa' _)) fT0)
      · rintro d hdm n ρ hn ⟨dk, l, a7, a8, hdk, hl, hf, s7, s8, rfl⟩
        have hl2 : l.length < 16777216 := by
          have : n < 9 := by simpa using hn
          omega
        simp [-List.all_eq_true, -List.any_eq_true, -List.all_eq_false, -List.any_eq_false, putQ_dS s7, lim, hl2]
        have fa' : ∀ n, Fine 0 n (.str "a") := fun n => fa.mono (Nat.zero_le _) (Nat.le_refl _)
        have f0 : Fine 0 1 (.int 0) := fineB_ok (by decide +kernel)
        have fd : Fine 0 0 d := fines (z := 0) (n := 0) (by decide +kernel) d hdm
        have q := wri_app (rows := rows) (cols := cols) (names := .list names) hdk hl hf (fT1 (fT2 (fa' _) (fT2 (fT1 (fa' _)) (fT1 (fT2 f0 (fT1 fd)))))) (dS_dat d) s8
        exact ⟨dk, _, _, _, hdk, by omega, q.2, dS_dat d, s8, rfl⟩
      · rintro ρ' ⟨dk, l, a7, a8, hdk, hl, hf, s7, s8, rfl⟩
        simp [-List.all_eq_true, -List.any_eq_true, -List.all_eq_false, -List.any_eq_false, lim]
        refine wp_for (fun n => wriI (c + 3) rows cols (.list names) (n + 12)) _ 0 _ ?_ ?_ ?_
        · exact ⟨dk, l, a7, a8, hdk, hl, hf, s7, s8, rfl⟩
        · rintro d hdm n ρ hn ⟨dk, l, a7, a8, hdk, hl, hf, s7, s8, rfl⟩
          have hl2 : l.length < 16777216 := by
            have : n < 6 := by simpa using hn
            omega
          simp [-List.all_eq_true, -List.any_eq_true, -List.all_eq_false, -List.any_eq_false, putQ_dS s8, lim, hl2]
          have fa' : ∀ n, Fine 0 n (.str "a") := fun n => fa.mono (Nat.zero_le _) (Nat.le_refl _)
          have f1 : Fine 0 0 (.int 1) := fineB_ok (by decide +kernel)
          have fd : Fine 0 0 d := fines (z := 0) (n := 0) (by decide +kernel) d hdm
          have q := wri_app (rows := rows) (cols := cols) (names := .list names) hdk hl hf (fT1 (fT2 (fa' _) (fT2 (fT1 (fa' _)) (fT1 (fT2 (fd.mono (by omega) (Nat.le_refl _)) (fT1 f1)))))) s7 (dS_dat d)
          exact ⟨dk, _, _, _, hdk, by omega, q.2, s7, dS_dat d, rfl⟩
        · rintro ρ' ⟨dk, l, a7, a8, hdk, hl, hf, s7, s8, rfl⟩
          simp [-List.all_eq_true, -List.any_eq_true, -List.all_eq_false, -List.any_eq_false]
          exact drawn_mk (R := Fine 0 0) ⟨l, rfl, Nat.le_trans hl (by decide), hf⟩ hdk (by omega)
def lawI (s : PyData) (n : Nat) (ρ : Rho) : Prop := ∃ a1 a2 a3 a4 a5 a6, dS a1 ∧ oS a2 ∧ dS a3 ∧ dS a4 ∧ dS a5 ∧ dS a6 ∧ ρ = [some (Vl.dat s), a1, a2, a3, a4, a5, a6, none]
def spoI (c : Nat) (s x g b o : PyData) (a6 : Slt) (n : Nat) (ρ : Rho) : Prop := ∃ dk, Dk (c + n * 19) dk ∧ ρ = [some (Vl.dat s), some (.dat x), some (.lst dk), some (.dat g), some (.dat b), some (.dat o), a6, none]
def loopI (s x g b o : PyData) (dk : List PyData) (n : Nat) (ρ : Rho) : Prop := ∃ a6, dS a6 ∧ ρ = [some (Vl.dat s), some (.dat x), some (.lst dk), some (.dat g), some (.dat b), some (.dat o), a6, none]
theorem law_run {k : Nat} {ns : List Int} (hn : ns.length ≤ 63) : fnR (prg.at (k + 12)) "law" [.dat (.list (ns.map .int))] fun x _ => x = .dat (.bool true) := by
  refine (fnR_run fn_law (by rfl)).mpr ?_
  have hl : ([PyData.int 0] : List PyData).length + (ns.map PyData.int).length ≤ lim := by
    rw [List.length_map]
    exact Nat.le_trans (by simp [-List.all_eq_true, -List.any_eq_true, -List.all_eq_false, -List.any_eq_false]; omega : _ ≤ 100) (by decide)
  have hmem : ∀ d ∈ PyData.int 0 :: ns.map PyData.int, ∃ i, d = .int i := by
    intro d hd
    rcases List.mem_cons.mp hd with rfl | hd
    · exact ⟨0, rfl⟩
    · obtain ⟨i, _, rfl⟩ := List.mem_map.mp hd
      exact ⟨i, rfl⟩
  have hl' : 1 + ns.length ≤ 16777216 := by omega
  simp [-List.all_eq_true, -List.any_eq_true, -List.all_eq_false, -List.any_eq_false, f_law, lim, hl', cut_toI _ (show (0 : Int) ≤ 10 by decide)]
  refine wp_for (lawI (.list (ns.map .int))) _ 0 _ ⟨none, none, none, none, none, none, trivial, trivial, trivial, trivial, trivial, trivial, rfl⟩ ?_ ?_
  · rintro d hdm n ρ hn2 ⟨a1, a2, a3, a4, a5, a6, s1, s2, s3, s4, s5, s6, rfl⟩
    obtain ⟨i, rfl⟩ : ∃ i, d = .int i := by
      rcases List.mem_cons.mp hdm with rfl | hd
      · exact ⟨0, rfl⟩
      · obtain ⟨i, _, rfl⟩ := List.mem_map.mp (List.mem_of_mem_take hd)
        exact ⟨i, rfl⟩
    generalize PyData.list (ns.map .int) = s at *
    simp [-List.all_eq_true, -List.any_eq_true, -List.all_eq_false, -List.any_eq_false, putQ_dS s1]
    refine g_deck.mono ?_
    rintro _ _ ⟨dk, rfl, hdk⟩
    simp [-List.all_eq_true, -List.any_eq_true, -List.all_eq_false, -List.any_eq_false, putQ_oS s2]
    refine io_drawn (g_houses hdk (by decide) (by decide) (by decide) (by decide) (by decide)) ?_
    rintro _ dk1 ⟨gl, rfl, hg4, hgf⟩ hd1
    have hgf6 : Fine 0 6 (.tuple gl) := ⟨by omega, hgf⟩
    simp [-List.all_eq_true, -List.any_eq_true, -List.all_eq_false, -List.any_eq_false, putQ_dS s3]
    refine io_drawn (g_spoilt (n := 6) (k := k + 3) hd1 (by decide) hgf6 (by decide)) ?_
    intro b dk2 hb hd2
    simp [-List.all_eq_true, -List.any_eq_true, -List.all_eq_false, -List.any_eq_false, putQ_dS s4]
    refine io_drawn (g_spoilt (n := 6) (k := k + 3) hd2 (by decide) hb (by decide)) ?_
    intro b2 dk3 hb2 hd3
    have hgl2 : gl.length + min 1 gl.length ≤ 16777216 := by omega
    simp [-List.all_eq_true, -List.any_eq_true, -List.all_eq_false, -List.any_eq_false, lim, hgl2]
    refine io_drawn (g_odd (k := k + 8) hd3 (by decide)) ?_
    intro o dk4 ho hd4
    simp [-List.all_eq_true, -List.any_eq_true, -List.all_eq_false, -List.any_eq_false, lim, putQ_dS s5, rngOf_small (lo := 0) (hi := 4) (by omega) (by omega) (by omega) (by omega)]
    have hall : ∀ x ∈ [PyData.tuple gl, b, b2, PyData.tuple gl.reverse, PyData.tuple (gl ++ List.take 1 gl), PyData.list gl, PyData.tuple [], PyData.none, o], okN 6 x = true := by
      intro x hx
      simp only [List.mem_cons, List.not_mem_nil, or_false] at hx
      rcases hx with rfl | rfl | rfl | rfl | rfl | rfl | rfl | rfl | rfl
      · exact hgf6.ok
      · exact hb.ok
      · exact hb2.ok
      · exact Fine.ok (z := 0) (n := 6) ⟨by rw [List.length_reverse]; omega, fun y hy => hgf y (List.mem_reverse.mp hy)⟩
      · refine Fine.ok (z := 0) (n := 6) ⟨by rw [List.length_append, List.length_take]; omega, fun y hy => ?_⟩
        rcases List.mem_append.mp hy with h | h
        · exact hgf y h
        · exact hgf y (List.mem_of_mem_take h)
      · exact Fine.ok (z := 0) (n := 6) ⟨by omega, hgf⟩
      · rfl
      · rfl
      · exact ho.ok
    have hlen9 : [PyData.tuple gl, b, b2, PyData.tuple gl.reverse, PyData.tuple (gl ++ List.take 1 gl), PyData.list gl, PyData.tuple [], PyData.none, o].length = 9 := rfl
    generalize [PyData.tuple gl, b, b2, PyData.tuple gl.reverse, PyData.tuple (gl ++ List.take 1 gl), PyData.list gl, PyData.tuple [], PyData.none, o] = L at *
    refine wp_lcI (spoI 10040 s (.int i) (.tuple gl) b (.list L) a6) (fun d => okN 6 d = true) ?_ ?_ ?_ ?_
    · simp [-List.all_eq_true, -List.any_eq_true, -List.all_eq_false, -List.any_eq_false]
    · exact ⟨dk4, hd4.mono (by omega), by simp [-List.all_eq_true, -List.any_eq_true, -List.all_eq_false, -List.any_eq_false]⟩
    · rintro e hem n' ρ hn' ⟨dk', hdk', rfl⟩
      have hn4 : n' < 4 := by rwa [rng_len] at hn'
      simp [-List.all_eq_true, -List.any_eq_true, -List.all_eq_false, -List.any_eq_false, lcB]
      refine io_drawn (g_spoilt (n := 6) (k := k + 3) hdk' (by omega) hgf6 (by decide)) ?_
      intro y dk'' hy hd''
      simp [-List.all_eq_true, -List.any_eq_true, -List.all_eq_false, -List.any_eq_false]
      exact ⟨hy.ok, dk'', hd''.mono (by omega), rfl⟩
    · rintro r ρ' hrf hrl ⟨dk5, hd5, rfl⟩
      rw [rng_len] at hrl hd5
      have hlr : L.length + r.length ≤ lim := by
        rw [hlen9]
        exact Nat.le_trans (by omega : 9 + r.length ≤ 100) (by decide)
      simp [-List.all_eq_true, -List.any_eq_true, -List.all_eq_false, -List.any_eq_false, hlr]
      refine io_drawn (g_written (k := k + 9) hd5 (by decide)) ?_
      rintro _ dk6 ⟨wl, rfl, hwl, hwf⟩ hd6
      have hlw : L.length + r.length + wl.length ≤ lim := by
        rw [hlen9]
        exact Nat.le_trans (by omega : 9 + r.length + wl.length ≤ 100) (by decide)
      simp [-List.all_eq_true, -List.any_eq_true, -List.all_eq_false, -List.any_eq_false, hlw]
      have hall2 : ∀ x ∈ L ++ (r ++ wl), okN 6 x = true := by
        intro x hx
        rcases List.mem_append.mp hx with h | h
        · exact hall x h
        · rcases List.mem_append.mp h with h | h
          · exact hrf x h
          · exact (hwf x h).ok
      refine wp_for (loopI s (.int i) (.tuple gl) b (.list L) dk6) _ 0 _ ⟨a6, s6, rfl⟩ ?_ ?_
      · rintro e hem n' ρ hn' ⟨b6, t6, rfl⟩
        have hok := hall2 e hem
        simp [-List.all_eq_true, -List.any_eq_true, -List.all_eq_false, -List.any_eq_false, putQ_dS t6, hok]
        exact ⟨_, dS_dat e, rfl⟩
      · rintro ρ' ⟨b6, t6, rfl⟩
        simp [-List.all_eq_true, -List.any_eq_true, -List.all_eq_false, -List.any_eq_false]
        exact ⟨_, some (.lst dk6), _, _, _, _, dS_dat _, trivial, dS_dat _, dS_dat _, dS_dat _, t6, rfl⟩
  · rintro ρ' ⟨a1, a2, a3, a4, a5, a6, s1, s2, s3, s4, s5, s6, rfl⟩
    simp [-List.all_eq_true, -List.any_eq_true, -List.all_eq_false, -List.any_eq_false]
theorem law_holds : LawHolds prg 20 := by
  intro ns hn _
  obtain ⟨x, s, e, hx⟩ := fnR_ex.mp (law_run (k := 8) hn)
  subst hx
  exact ⟨s, e⟩
end Pb
end

section
set_option Elab.async false
set_option linter.all false
set_option maxRecDepth 100000
namespace Pb
open PySem L2
def topS (i : Nat) : Stmt := PySem.Challenge.pw_poolbook_k01_what_are_houses.main.body.getD i (.Pass ⟨0, 0, 0, 0⟩)
theorem sc_is_from : FnScope ["thing", "low", "high"] ["thing", "low", "high"] (defScope (topS 7)) := ⟨rfl, rfl, rfl, by decide +kernel, rfl, by decide +kernel, by decide +kernel⟩
theorem ok_is_from : okSs ⟨defScope (topS 7), ["thing", "low", "high"], fun _ => true⟩ f_is_from.body (defBody (topS 7)) = true := by decide +kernel
theorem bd_is_from (kV doc pm : Value) (an : Option Addr) (cdv ct : Value) (us : List Value) (h : us.length = (["thing", "low", "high"] : List Str).length) : bindArgs (PySem.W.fnOf "is_from" "is_from" (defArgs (topS 7)) (defBody (topS 7)) (defScope (topS 7)) .none kV doc pm an cdv ct) ⟨us, []⟩ = pure ((["thing", "low", "high"] : List Str).zip us) :=
  match us, h with | [_, _, _], _ => rfl
theorem sc_is_name : FnScope ["thing", "sign"] ["thing"] (defScope (topS 8)) := ⟨rfl, rfl, rfl, by decide +kernel, rfl, by decide +kernel, by decide +kernel⟩
theorem ok_is_name : okSs ⟨defScope (topS 8), ["thing", "sign"], fun _ => true⟩ f_is_name.body (defBody (topS 8)) = true := by decide +kernel
theorem bd_is_name (kV doc pm : Value) (an : Option Addr) (cdv ct : Value) (us : List Value) (h : us.length = (["thing"] : List Str).length) : bindArgs (PySem.W.fnOf "is_name" "is_name" (defArgs (topS 8)) (defBody (topS 8)) (defScope (topS 8)) .none kV doc pm an cdv ct) ⟨us, []⟩ = pure ((["thing"] : List Str).zip us) :=
  match us, h with | [_], _ => rfl
theorem sc_is_worth : FnScope ["thing"] ["thing"] (defScope (topS 9)) := ⟨rfl, rfl, rfl, by decide +kernel, rfl, by decide +kernel, by decide +kernel⟩
theorem ok_is_worth : okSs ⟨defScope (topS 9), ["thing"], fun _ => true⟩ f_is_worth.body (defBody (topS 9)) = true := by decide +kernel
theorem bd_is_worth (kV doc pm : Value) (an : Option Addr) (cdv ct : Value) (us : List Value) (h : us.length = (["thing"] : List Str).length) : bindArgs (PySem.W.fnOf "is_worth" "is_worth" (defArgs (topS 9)) (defBody (topS 9)) (defScope (topS 9)) .none kV doc pm an cdv ct) ⟨us, []⟩ = pure ((["thing"] : List Str).zip us) :=
  match us, h with | [_], _ => rfl
theorem sc_is_pair : FnScope ["thing"] ["thing"] (defScope (topS 10)) := ⟨rfl, rfl, rfl, by decide +kernel, rfl, by decide +kernel, by decide +kernel⟩
theorem ok_is_pair : okSs ⟨defScope (topS 10), ["thing"], fun _ => true⟩ f_is_pair.body (defBody (topS 10)) = true := by decide +kernel
theorem bd_is_pair (kV doc pm : Value) (an : Option Addr) (cdv ct : Value) (us : List Value) (h : us.length = (["thing"] : List Str).length) : bindArgs (PySem.W.fnOf "is_pair" "is_pair" (defArgs (topS 10)) (defBody (topS 10)) (defScope (topS 10)) .none kV doc pm an cdv ct) ⟨us, []⟩ = pure ((["thing"] : List Str).zip us) :=
  match us, h with | [_], _ => rfl
theorem sc_is_rising : FnScope ["things", "one", "other"] ["things"] (defScope (topS 11)) := ⟨rfl, rfl, rfl, by decide +kernel, rfl, by decide +kernel, by decide +kernel⟩
theorem ok_is_rising : okSs ⟨defScope (topS 11), ["things", "one", "other"], fun _ => true⟩ f_is_rising.body (defBody (topS 11)) = true := by decide +kernel
theorem bd_is_rising (kV doc pm : Value) (an : Option Addr) (cdv ct : Value) (us : List Value) (h : us.length = (["things"] : List Str).length) : bindArgs (PySem.W.fnOf "is_rising" "is_rising" (defArgs (topS 11)) (defBody (topS 11)) (defScope (topS 11)) .none kV doc pm an cdv ct) ⟨us, []⟩ = pure ((["things"] : List Str).zip us) :=
  match us, h with | [_], _ => rfl
theorem sc_are_columns : FnScope ["thing", "one"] ["thing"] (defScope (topS 12)) := ⟨rfl, rfl, rfl, by decide +kernel, rfl, by decide +kernel, by decide +kernel⟩
theorem ok_are_columns : okSs ⟨defScope (topS 12), ["thing", "one"], fun _ => true⟩ f_are_columns.body (defBody (topS 12)) = true := by decide +kernel
theorem bd_are_columns (kV doc pm : Value) (an : Option Addr) (cdv ct : Value) (us : List Value) (h : us.length = (["thing"] : List Str).length) : bindArgs (PySem.W.fnOf "are_columns" "are_columns" (defArgs (topS 12)) (defBody (topS 12)) (defScope (topS 12)) .none kV doc pm an cdv ct) ⟨us, []⟩ = pure ((["thing"] : List Str).zip us) :=
  match us, h with | [_], _ => rfl
theorem sc_is_row : FnScope ["columns", "thing", "worth"] ["columns", "thing"] (defScope (topS 13)) := ⟨rfl, rfl, rfl, by decide +kernel, rfl, by decide +kernel, by decide +kernel⟩
theorem ok_is_row : okSs ⟨defScope (topS 13), ["columns", "thing", "worth"], fun _ => true⟩ f_is_row.body (defBody (topS 13)) = true := by decide +kernel
theorem bd_is_row (kV doc pm : Value) (an : Option Addr) (cdv ct : Value) (us : List Value) (h : us.length = (["columns", "thing"] : List Str).length) : bindArgs (PySem.W.fnOf "is_row" "is_row" (defArgs (topS 13)) (defBody (topS 13)) (defScope (topS 13)) .none kV doc pm an cdv ct) ⟨us, []⟩ = pure ((["columns", "thing"] : List Str).zip us) :=
  match us, h with | [_, _], _ => rfl
theorem sc_is_table : FnScope ["thing", "rows", "row"] ["thing"] (defScope (topS 14)) := ⟨rfl, rfl, rfl, by decide +kernel, rfl, by decide +kernel, by decide +kernel⟩
theorem ok_is_table : okSs ⟨defScope (topS 14), ["thing", "rows", "row"], fun _ => true⟩ f_is_table.body (defBody (topS 14)) = true := by decide +kernel
theorem bd_is_table (kV doc pm : Value) (an : Option Addr) (cdv ct : Value) (us : List Value) (h : us.length = (["thing"] : List Str).length) : bindArgs (PySem.W.fnOf "is_table" "is_table" (defArgs (topS 14)) (defBody (topS 14)) (defScope (topS 14)) .none kV doc pm an cdv ct) ⟨us, []⟩ = pure ((["thing"] : List Str).zip us) :=
  match us, h with | [_], _ => rfl
theorem sc_are_houses : FnScope ["thing", "one", "name", "table"] ["thing"] (defScope (topS 15)) := ⟨rfl, rfl, rfl, by decide +kernel, rfl, by decide +kernel, by decide +kernel⟩
theorem ok_are_houses : okSs ⟨defScope (topS 15), ["thing", "one", "name", "table"], fun _ => true⟩ f_are_houses.body (defBody (topS 15)) = true := by decide +kernel
theorem bd_are_houses (kV doc pm : Value) (an : Option Addr) (cdv ct : Value) (us : List Value) (h : us.length = (["thing"] : List Str).length) : bindArgs (PySem.W.fnOf "are_houses" "are_houses" (defArgs (topS 15)) (defBody (topS 15)) (defScope (topS 15)) .none kV doc pm an cdv ct) ⟨us, []⟩ = pure ((["thing"] : List Str).zip us) :=
  match us, h with | [_], _ => rfl
theorem sc__law_deck : FnScope ["cell_", "turn"] ["cell_", "turn"] (defScope (topS 17)) := ⟨rfl, rfl, rfl, by decide +kernel, rfl, by decide +kernel, by decide +kernel⟩
theorem ok__law_deck : okSs ⟨defScope (topS 17), ["cell_", "turn"], fun _ => true⟩ f__law_deck.body (defBody (topS 17)) = true := by decide +kernel
theorem bd__law_deck (kV doc pm : Value) (an : Option Addr) (cdv ct : Value) (us : List Value) (h : us.length = (["cell_", "turn"] : List Str).length) : bindArgs (PySem.W.fnOf "_law_deck" "_law_deck" (defArgs (topS 17)) (defBody (topS 17)) (defScope (topS 17)) .none kV doc pm an cdv ct) ⟨us, []⟩ = pure ((["cell_", "turn"] : List Str).zip us) :=
  match us, h with | [_, _], _ => rfl
theorem sc__law_pick : FnScope ["deck", "size", "found", "number"] ["deck", "size"] (defScope (topS 18)) := ⟨rfl, rfl, rfl, by decide +kernel, rfl, by decide +kernel, by decide +kernel⟩
theorem ok__law_pick : okSs ⟨defScope (topS 18), ["deck", "size", "found", "number"], fun _ => true⟩ f__law_pick.body (defBody (topS 18)) = true := by decide +kernel
theorem bd__law_pick (kV doc pm : Value) (an : Option Addr) (cdv ct : Value) (us : List Value) (h : us.length = (["deck", "size"] : List Str).length) : bindArgs (PySem.W.fnOf "_law_pick" "_law_pick" (defArgs (topS 18)) (defBody (topS 18)) (defScope (topS 18)) .none kV doc pm an cdv ct) ⟨us, []⟩ = pure ((["deck", "size"] : List Str).zip us) :=
  match us, h with | [_, _], _ => rfl
theorem sc__law_whole : FnScope ["thing"] ["thing"] (defScope (topS 19)) := ⟨rfl, rfl, rfl, by decide +kernel, rfl, by decide +kernel, by decide +kernel⟩
theorem ok__law_whole : okSs ⟨defScope (topS 19), ["thing"], fun _ => true⟩ f__law_whole.body (defBody (topS 19)) = true := by decide +kernel
theorem bd__law_whole (kV doc pm : Value) (an : Option Addr) (cdv ct : Value) (us : List Value) (h : us.length = (["thing"] : List Str).length) : bindArgs (PySem.W.fnOf "_law_whole" "_law_whole" (defArgs (topS 19)) (defBody (topS 19)) (defScope (topS 19)) .none kV doc pm an cdv ct) ⟨us, []⟩ = pure ((["thing"] : List Str).zip us) :=
  match us, h with | [_], _ => rfl
theorem sc__law_one : FnScope ["deck", "some"] ["deck", "some"] (defScope (topS 20)) := ⟨rfl, rfl, rfl, by decide +kernel, rfl, by decide +kernel, by decide +kernel⟩
theorem ok__law_one : okSs ⟨defScope (topS 20), ["deck", "some"], fun _ => true⟩ f__law_one.body (defBody (topS 20)) = true := by decide +kernel
theorem bd__law_one (kV doc pm : Value) (an : Option Addr) (cdv ct : Value) (us : List Value) (h : us.length = (["deck", "some"] : List Str).length) : bindArgs (PySem.W.fnOf "_law_one" "_law_one" (defArgs (topS 20)) (defBody (topS 20)) (defScope (topS 20)) .none kV doc pm an cdv ct) ⟨us, []⟩ = pure ((["deck", "some"] : List Str).zip us) :=
  match us, h with | [_, _], _ => rfl
theorem sc__law_sort : FnScope ["thing"] ["thing"] (defScope (topS 21)) := ⟨rfl, rfl, rfl, by decide +kernel, rfl, by decide +kernel, by decide +kernel⟩
theorem ok__law_sort : okSs ⟨defScope (topS 21), ["thing"], fun _ => true⟩ f__law_sort.body (defBody (topS 21)) = true := by decide +kernel
theorem bd__law_sort (kV doc pm : Value) (an : Option Addr) (cdv ct : Value) (us : List Value) (h : us.length = (["thing"] : List Str).length) : bindArgs (PySem.W.fnOf "_law_sort" "_law_sort" (defArgs (topS 21)) (defBody (topS 21)) (defScope (topS 21)) .none kV doc pm an cdv ct) ⟨us, []⟩ = pure ((["thing"] : List Str).zip us) :=
  match us, h with | [_], _ => rfl
theorem sc__law_same : FnScope ["told", "due", "k", "part"] ["told", "due"] (defScope (topS 22)) := ⟨rfl, rfl, rfl, by decide +kernel, rfl, by decide +kernel, by decide +kernel⟩
theorem ok__law_same : okSs ⟨defScope (topS 22), ["told", "due", "k", "part"], fun _ => true⟩ f__law_same.body (defBody (topS 22)) = true := by decide +kernel
theorem bd__law_same (kV doc pm : Value) (an : Option Addr) (cdv ct : Value) (us : List Value) (h : us.length = (["told", "due"] : List Str).length) : bindArgs (PySem.W.fnOf "_law_same" "_law_same" (defArgs (topS 22)) (defBody (topS 22)) (defScope (topS 22)) .none kV doc pm an cdv ct) ⟨us, []⟩ = pure ((["told", "due"] : List Str).zip us) :=
  match us, h with | [_, _], _ => rfl
theorem sc__law_odd : FnScope ["deck", "some"] ["deck"] (defScope (topS 23)) := ⟨rfl, rfl, rfl, by decide +kernel, rfl, by decide +kernel, by decide +kernel⟩
theorem ok__law_odd : okSs ⟨defScope (topS 23), ["deck", "some"], fun _ => true⟩ f__law_odd.body (defBody (topS 23)) = true := by decide +kernel
theorem bd__law_odd (kV doc pm : Value) (an : Option Addr) (cdv ct : Value) (us : List Value) (h : us.length = (["deck"] : List Str).length) : bindArgs (PySem.W.fnOf "_law_odd" "_law_odd" (defArgs (topS 23)) (defBody (topS 23)) (defScope (topS 23)) .none kV doc pm an cdv ct) ⟨us, []⟩ = pure ((["deck"] : List Str).zip us) :=
  match us, h with | [_], _ => rfl
theorem sc__law_spoilt : FnScope ["deck", "thing", "rows", "at", "other"] ["deck", "thing"] (defScope (topS 24)) := ⟨rfl, rfl, rfl, by decide +kernel, rfl, by decide +kernel, by decide +kernel⟩
theorem ok__law_spoilt : okSs ⟨defScope (topS 24), ["deck", "thing", "rows", "at", "other"], fun _ => true⟩ f__law_spoilt.body (defBody (topS 24)) = true := by decide +kernel
theorem bd__law_spoilt (kV doc pm : Value) (an : Option Addr) (cdv ct : Value) (us : List Value) (h : us.length = (["deck", "thing"] : List Str).length) : bindArgs (PySem.W.fnOf "_law_spoilt" "_law_spoilt" (defArgs (topS 24)) (defBody (topS 24)) (defScope (topS 24)) .none kV doc pm an cdv ct) ⟨us, []⟩ = pure ((["deck", "thing"] : List Str).zip us) :=
  match us, h with | [_, _], _ => rfl
theorem sc__law_worth : FnScope ["deck"] ["deck"] (defScope (topS 25)) := ⟨rfl, rfl, rfl, by decide +kernel, rfl, by decide +kernel, by decide +kernel⟩
theorem ok__law_worth : okSs ⟨defScope (topS 25), ["deck"], fun _ => true⟩ f__law_worth.body (defBody (topS 25)) = true := by decide +kernel
theorem bd__law_worth (kV doc pm : Value) (an : Option Addr) (cdv ct : Value) (us : List Value) (h : us.length = (["deck"] : List Str).length) : bindArgs (PySem.W.fnOf "_law_worth" "_law_worth" (defArgs (topS 25)) (defBody (topS 25)) (defScope (topS 25)) .none kV doc pm an cdv ct) ⟨us, []⟩ = pure ((["deck"] : List Str).zip us) :=
  match us, h with | [_], _ => rfl
theorem sc__law_houses : FnScope ["deck", "most", "rows_most", "found", "name", "columns", "rows", "number", "one"] ["deck", "most", "rows_most"] (defScope (topS 26)) := ⟨rfl, rfl, rfl, by decide +kernel, rfl, by decide +kernel, by decide +kernel⟩
theorem ok__law_houses : okSs ⟨defScope (topS 26), ["deck", "most", "rows_most", "found", "name", "columns", "rows", "number", "one"], fun _ => true⟩ f__law_houses.body (defBody (topS 26)) = true := by decide +kernel
theorem bd__law_houses (kV doc pm : Value) (an : Option Addr) (cdv ct : Value) (us : List Value) (h : us.length = (["deck", "most", "rows_most"] : List Str).length) : bindArgs (PySem.W.fnOf "_law_houses" "_law_houses" (defArgs (topS 26)) (defBody (topS 26)) (defScope (topS 26)) .none kV doc pm an cdv ct) ⟨us, []⟩ = pure ((["deck", "most", "rows_most"] : List Str).zip us) :=
  match us, h with | [_, _, _], _ => rfl
theorem sc__law_is_name : FnScope ["thing", "sign"] ["thing"] (defScope (topS 27)) := ⟨rfl, rfl, rfl, by decide +kernel, rfl, by decide +kernel, by decide +kernel⟩
theorem ok__law_is_name : okSs ⟨defScope (topS 27), ["thing", "sign"], fun _ => true⟩ f__law_is_name.body (defBody (topS 27)) = true := by decide +kernel
theorem bd__law_is_name (kV doc pm : Value) (an : Option Addr) (cdv ct : Value) (us : List Value) (h : us.length = (["thing"] : List Str).length) : bindArgs (PySem.W.fnOf "_law_is_name" "_law_is_name" (defArgs (topS 27)) (defBody (topS 27)) (defScope (topS 27)) .none kV doc pm an cdv ct) ⟨us, []⟩ = pure ((["thing"] : List Str).zip us) :=
  match us, h with | [_], _ => rfl
theorem sc__law_rises : FnScope ["some", "k"] ["some"] (defScope (topS 28)) := ⟨rfl, rfl, rfl, by decide +kernel, rfl, by decide +kernel, by decide +kernel⟩
theorem ok__law_rises : okSs ⟨defScope (topS 28), ["some", "k"], fun _ => true⟩ f__law_rises.body (defBody (topS 28)) = true := by decide +kernel
theorem bd__law_rises (kV doc pm : Value) (an : Option Addr) (cdv ct : Value) (us : List Value) (h : us.length = (["some"] : List Str).length) : bindArgs (PySem.W.fnOf "_law_rises" "_law_rises" (defArgs (topS 28)) (defBody (topS 28)) (defScope (topS 28)) .none kV doc pm an cdv ct) ⟨us, []⟩ = pure ((["some"] : List Str).zip us) :=
  match us, h with | [_], _ => rfl
theorem sc__law_are_pairs : FnScope ["thing", "most", "one"] ["thing", "most"] (defScope (topS 29)) := ⟨rfl, rfl, rfl, by decide +kernel, rfl, by decide +kernel, by decide +kernel⟩
theorem ok__law_are_pairs : okSs ⟨defScope (topS 29), ["thing", "most", "one"], fun _ => true⟩ f__law_are_pairs.body (defBody (topS 29)) = true := by decide +kernel
theorem bd__law_are_pairs (kV doc pm : Value) (an : Option Addr) (cdv ct : Value) (us : List Value) (h : us.length = (["thing", "most"] : List Str).length) : bindArgs (PySem.W.fnOf "_law_are_pairs" "_law_are_pairs" (defArgs (topS 29)) (defBody (topS 29)) (defScope (topS 29)) .none kV doc pm an cdv ct) ⟨us, []⟩ = pure ((["thing", "most"] : List Str).zip us) :=
  match us, h with | [_, _], _ => rfl
theorem sc__law_is_worth : FnScope ["thing"] ["thing"] (defScope (topS 30)) := ⟨rfl, rfl, rfl, by decide +kernel, rfl, by decide +kernel, by decide +kernel⟩
theorem ok__law_is_worth : okSs ⟨defScope (topS 30), ["thing"], fun _ => true⟩ f__law_is_worth.body (defBody (topS 30)) = true := by decide +kernel
theorem bd__law_is_worth (kV doc pm : Value) (an : Option Addr) (cdv ct : Value) (us : List Value) (h : us.length = (["thing"] : List Str).length) : bindArgs (PySem.W.fnOf "_law_is_worth" "_law_is_worth" (defArgs (topS 30)) (defBody (topS 30)) (defScope (topS 30)) .none kV doc pm an cdv ct) ⟨us, []⟩ = pure ((["thing"] : List Str).zip us) :=
  match us, h with | [_], _ => rfl
theorem sc__law_is_table : FnScope ["thing", "columns", "rows", "one", "number", "row", "bad", "worth"] ["thing"] (defScope (topS 31)) := ⟨rfl, rfl, rfl, by decide +kernel, rfl, by decide +kernel, by decide +kernel⟩
theorem ok__law_is_table : okSs ⟨defScope (topS 31), ["thing", "columns", "rows", "one", "number", "row", "bad", "worth"], fun _ => true⟩ f__law_is_table.body (defBody (topS 31)) = true := by decide +kernel
theorem bd__law_is_table (kV doc pm : Value) (an : Option Addr) (cdv ct : Value) (us : List Value) (h : us.length = (["thing"] : List Str).length) : bindArgs (PySem.W.fnOf "_law_is_table" "_law_is_table" (defArgs (topS 31)) (defBody (topS 31)) (defScope (topS 31)) .none kV doc pm an cdv ct) ⟨us, []⟩ = pure ((["thing"] : List Str).zip us) :=
  match us, h with | [_], _ => rfl
theorem sc__law_good : FnScope ["thing", "one"] ["thing"] (defScope (topS 32)) := ⟨rfl, rfl, rfl, by decide +kernel, rfl, by decide +kernel, by decide +kernel⟩
theorem ok__law_good : okSs ⟨defScope (topS 32), ["thing", "one"], fun _ => true⟩ f__law_good.body (defBody (topS 32)) = true := by decide +kernel
theorem bd__law_good (kV doc pm : Value) (an : Option Addr) (cdv ct : Value) (us : List Value) (h : us.length = (["thing"] : List Str).length) : bindArgs (PySem.W.fnOf "_law_good" "_law_good" (defArgs (topS 32)) (defBody (topS 32)) (defScope (topS 32)) .none kV doc pm an cdv ct) ⟨us, []⟩ = pure ((["thing"] : List Str).zip us) :=
  match us, h with | [_], _ => rfl
theorem sc__law_written : FnScope ["deck", "rows", "k", "columns", "some", "names", "name", "worth", "number"] ["deck"] (defScope (topS 33)) := ⟨rfl, rfl, rfl, by decide +kernel, rfl, by decide +kernel, by decide +kernel⟩
theorem ok__law_written : okSs ⟨defScope (topS 33), ["deck", "rows", "k", "columns", "some", "names", "name", "worth", "number"], fun _ => true⟩ f__law_written.body (defBody (topS 33)) = true := by decide +kernel
theorem bd__law_written (kV doc pm : Value) (an : Option Addr) (cdv ct : Value) (us : List Value) (h : us.length = (["deck"] : List Str).length) : bindArgs (PySem.W.fnOf "_law_written" "_law_written" (defArgs (topS 33)) (defBody (topS 33)) (defScope (topS 33)) .none kV doc pm an cdv ct) ⟨us, []⟩ = pure ((["deck"] : List Str).zip us) :=
  match us, h with | [_], _ => rfl
theorem sc_law : FnScope ["script", "cell_", "deck", "good", "bent", "some", "thing", "k"] ["script"] (defScope (topS 34)) := ⟨rfl, rfl, rfl, by decide +kernel, rfl, by decide +kernel, by decide +kernel⟩
theorem ok_law : okSs ⟨defScope (topS 34), ["script", "cell_", "deck", "good", "bent", "some", "thing", "k"], fun _ => true⟩ f_law.body (defBody (topS 34)) = true := by decide +kernel
theorem bd_law (kV doc pm : Value) (an : Option Addr) (cdv ct : Value) (us : List Value) (h : us.length = (["script"] : List Str).length) : bindArgs (PySem.W.fnOf "law" "law" (defArgs (topS 34)) (defBody (topS 34)) (defScope (topS 34)) .none kV doc pm an cdv ct) ⟨us, []⟩ = pure ((["script"] : List Str).zip us) :=
  match us, h with | [_], _ => rfl
end Pb
open PySem PySem.W PyProof.Rows
set_option maxRecDepth 100000 in
set_option maxHeartbeats 0 in
theorem PySem.Challenge.cw_poolbook_k01_what_are_houses_holds : PySem.Challenge.rw_poolbook_k01_what_are_houses.Holds := by
  w_on; o_law; k_head; (case hw => w_witness2)
  k_fill
  refine Pb.walk (l := PySem.Challenge.rw_poolbook_k01_what_are_houses) 20 ⟨rfl, by decide, by decide⟩ rfl rfl (fun w h Y => PySem.W.kIn_of Y) ?F
  case F =>
    intro w mg fa h KX G hmg
    refine' Pb.law_end (P := Pb.prg) KX G hmg rfl Pb.law_holds rfl Pb.sc_law rfl rfl Pb.ok_law Pb.bd_law ?a4 ?l4 ?c4 ?k4 ?hn ?hg ?hf
    (case a4 => k_is); (case l4 => k_is); (case c4 => k_is); (case k4 => k_is)
    case hn =>
      refine' ⟨?zno0, ?zno1, ?zno2, ?zno3, ?zno4, ?zno5, ?zno6, ?zno7, ?zno8, ?zno9, ?zno10, ?zno11, ?zno12, True.intro⟩
      (case zno0 => k_is); (case zno1 => k_is); (case zno2 => k_is); (case zno3 => k_is); (case zno4 => k_is); (case zno5 => k_is); (case zno6 => k_is); (case zno7 => k_is); (case zno8 => k_is); (case zno9 => k_is); (case zno10 => k_is); (case zno11 => k_is); (case zno12 => k_is)
    case hg =>
      refine' ⟨?glo0, ?glo1, ?glo2, ?glo3, ?glo4, ?glo5, True.intro⟩
      case glo0 =>
        refine' Pb.gl_mkS (by decide +kernel) KX G ?a
        (case a => k_is)
      case glo1 =>
        refine' Pb.gl_mkI KX G ?a
        (case a => k_is)
      case glo2 =>
        refine' Pb.gl_mkI KX G ?a
        (case a => k_is)
      case glo3 =>
        refine' Pb.gl_mkI KX G ?a
        (case a => k_is)
      case glo4 =>
        refine' Pb.gl_mkI KX G ?a
        (case a => k_is)
      case glo5 =>
        refine' Pb.gl_mkI KX G ?a
        (case a => k_is)
    case hf =>
      refine' ⟨?dfn0, ?dfn1, ?dfn2, ?dfn3, ?dfn4, ?dfn5, ?dfn6, ?dfn7, ?dfn8, ?dfn9, ?dfn10, ?dfn11, ?dfn12, ?dfn13, ?dfn14, ?dfn15, ?dfn16, ?dfn17, ?dfn18, ?dfn19, ?dfn20, ?dfn21, ?dfn22, ?dfn23, ?dfn24, ?dfn25, ?dfn26, True.intro⟩
      case dfn0 =>
        refine' Pb.def_mk2 KX G ?a ?l ?c ?k Pb.sc_is_from rfl rfl Pb.ok_is_from Pb.bd_is_from
        (case a => k_is); (case l => k_is); (case c => k_is); (case k => k_is)
      case dfn1 =>
        refine' Pb.def_mk2 KX G ?a ?l ?c ?k Pb.sc_is_name rfl rfl Pb.ok_is_name Pb.bd_is_name
        (case a => k_is); (case l => k_is); (case c => k_is); (case k => k_is)
      case dfn2 =>
        refine' Pb.def_mk2 KX G ?a ?l ?c ?k Pb.sc_is_worth rfl rfl Pb.ok_is_worth Pb.bd_is_worth
        (case a => k_is); (case l => k_is); (case c => k_is); (case k => k_is)
      case dfn3 =>
        refine' Pb.def_mk2 KX G ?a ?l ?c ?k Pb.sc_is_pair rfl rfl Pb.ok_is_pair Pb.bd_is_pair
        (case a => k_is); (case l => k_is); (case c => k_is); (case k => k_is)
      case dfn4 =>
        refine' Pb.def_mk2 KX G ?a ?l ?c ?k Pb.sc_is_rising rfl rfl Pb.ok_is_rising Pb.bd_is_rising
        (case a => k_is); (case l => k_is); (case c => k_is); (case k => k_is)
      case dfn5 =>
        refine' Pb.def_mk2 KX G ?a ?l ?c ?k Pb.sc_are_columns rfl rfl Pb.ok_are_columns Pb.bd_are_columns
        (case a => k_is); (case l => k_is); (case c => k_is); (case k => k_is)
      case dfn6 =>
        refine' Pb.def_mk2 KX G ?a ?l ?c ?k Pb.sc_is_row rfl rfl Pb.ok_is_row Pb.bd_is_row
        (case a => k_is); (case l => k_is); (case c => k_is); (case k => k_is)
      case dfn7 =>
        refine' Pb.def_mk2 KX G ?a ?l ?c ?k Pb.sc_is_table rfl rfl Pb.ok_is_table Pb.bd_is_table
        (case a => k_is); (case l => k_is); (case c => k_is); (case k => k_is)
      case dfn8 =>
        refine' Pb.def_mk2 KX G ?a ?l ?c ?k Pb.sc_are_houses rfl rfl Pb.ok_are_houses Pb.bd_are_houses
        (case a => k_is); (case l => k_is); (case c => k_is); (case k => k_is)
      case dfn9 =>
        refine' Pb.def_mk2 KX G ?a ?l ?c ?k Pb.sc__law_deck rfl rfl Pb.ok__law_deck Pb.bd__law_deck
        (case a => k_is); (case l => k_is); (case c => k_is); (case k => k_is)
      case dfn10 =>
        refine' Pb.def_mk2 KX G ?a ?l ?c ?k Pb.sc__law_pick rfl rfl Pb.ok__law_pick Pb.bd__law_pick
        (case a => k_is); (case l => k_is); (case c => k_is); (case k => k_is)
      case dfn11 =>
        refine' Pb.def_mk2 KX G ?a ?l ?c ?k Pb.sc__law_whole rfl rfl Pb.ok__law_whole Pb.bd__law_whole
        (case a => k_is); (case l => k_is); (case c => k_is); (case k => k_is)
      case dfn12 =>
        refine' Pb.def_mk2 KX G ?a ?l ?c ?k Pb.sc__law_one rfl rfl Pb.ok__law_one Pb.bd__law_one
        (case a => k_is); (case l => k_is); (case c => k_is); (case k => k_is)
      case dfn13 =>
        refine' Pb.def_mk2 KX G ?a ?l ?c ?k Pb.sc__law_sort rfl rfl Pb.ok__law_sort Pb.bd__law_sort
        (case a => k_is); (case l => k_is); (case c => k_is); (case k => k_is)
      case dfn14 =>
        refine' Pb.def_mk2 KX G ?a ?l ?c ?k Pb.sc__law_same rfl rfl Pb.ok__law_same Pb.bd__law_same
        (case a => k_is); (case l => k_is); (case c => k_is); (case k => k_is)
      case dfn15 =>
        refine' Pb.def_mk2 KX G ?a ?l ?c ?k Pb.sc__law_odd rfl rfl Pb.ok__law_odd Pb.bd__law_odd
        (case a => k_is); (case l => k_is); (case c => k_is); (case k => k_is)
      case dfn16 =>
        refine' Pb.def_mk2 KX G ?a ?l ?c ?k Pb.sc__law_spoilt rfl rfl Pb.ok__law_spoilt Pb.bd__law_spoilt
        (case a => k_is); (case l => k_is); (case c => k_is); (case k => k_is)
      case dfn17 =>
        refine' Pb.def_mk2 KX G ?a ?l ?c ?k Pb.sc__law_worth rfl rfl Pb.ok__law_worth Pb.bd__law_worth
        (case a => k_is); (case l => k_is); (case c => k_is); (case k => k_is)
      case dfn18 =>
        refine' Pb.def_mk2 KX G ?a ?l ?c ?k Pb.sc__law_houses rfl rfl Pb.ok__law_houses Pb.bd__law_houses
        (case a => k_is); (case l => k_is); (case c => k_is); (case k => k_is)
      case dfn19 =>
        refine' Pb.def_mk2 KX G ?a ?l ?c ?k Pb.sc__law_is_name rfl rfl Pb.ok__law_is_name Pb.bd__law_is_name
        (case a => k_is); (case l => k_is); (case c => k_is); (case k => k_is)
      case dfn20 =>
        refine' Pb.def_mk2 KX G ?a ?l ?c ?k Pb.sc__law_rises rfl rfl Pb.ok__law_rises Pb.bd__law_rises
        (case a => k_is); (case l => k_is); (case c => k_is); (case k => k_is)
      case dfn21 =>
        refine' Pb.def_mk2 KX G ?a ?l ?c ?k Pb.sc__law_are_pairs rfl rfl Pb.ok__law_are_pairs Pb.bd__law_are_pairs
        (case a => k_is); (case l => k_is); (case c => k_is); (case k => k_is)
      case dfn22 =>
        refine' Pb.def_mk2 KX G ?a ?l ?c ?k Pb.sc__law_is_worth rfl rfl Pb.ok__law_is_worth Pb.bd__law_is_worth
        (case a => k_is); (case l => k_is); (case c => k_is); (case k => k_is)
      case dfn23 =>
        refine' Pb.def_mk2 KX G ?a ?l ?c ?k Pb.sc__law_is_table rfl rfl Pb.ok__law_is_table Pb.bd__law_is_table
        (case a => k_is); (case l => k_is); (case c => k_is); (case k => k_is)
      case dfn24 =>
        refine' Pb.def_mk2 KX G ?a ?l ?c ?k Pb.sc__law_good rfl rfl Pb.ok__law_good Pb.bd__law_good
        (case a => k_is); (case l => k_is); (case c => k_is); (case k => k_is)
      case dfn25 =>
        refine' Pb.def_mk2 KX G ?a ?l ?c ?k Pb.sc__law_written rfl rfl Pb.ok__law_written Pb.bd__law_written
        (case a => k_is); (case l => k_is); (case c => k_is); (case k => k_is)
      case dfn26 =>
        refine' Pb.def_mk2 KX G ?a ?l ?c ?k Pb.sc_law rfl rfl Pb.ok_law Pb.bd_law
        (case a => k_is); (case l => k_is); (case c => k_is); (case k => k_is)
end
