import PyProof.Rows.All
import PyProof.Rows.IntBool
import Wide.All
import OpenK.AllK
import Wide.FinOn
import PyProof.EqAt
import PyProof.EqKinds
import PyProof.TupleCall
import HandS.ForMost
import HandS.ForExc
import HandS.ExcCtx
import HandS.Text
import HandS.Wide
import HandS.TupAny
import HandS.TupMul
import HandS.Zip
import HandS.Flow
import HandS.Style
import HandS.Codes
import HandS.FStr
import HandS.Deep
import HandS.IsInst
import HandS.RaiseMore
import HandS.Lambda
import HandS.Nested
import HandS.CallLocal
import HandS.HotCalls
import HandS.Zip0
import HandS.ExcIs
import HandS.EndOwn
import PySem.Challenge.RW_anywheels_k14_texts_of_scripts
import HandS.HeadWalk
section
set_option Elab.async false
set_option linter.all false
set_option autoImplicit false
/-! Q1: a small core language over trees, and what it does (no machine in sight). -/
namespace Qv
open PySem

/-- values as trees: lists and dicts stand for objects that nobody changes any more -/
inductive PV where
  | non | bl (b : Bool) | int (i : Int) | str (s : Str)
  | tup (xs : List PV) | lst (xs : List PV) | dct (ks vs : List PV)
  | fn (i : Nat) | cl (i : Nat) | ob (i : Nat)
  | clo (i : Nat) (caps : List PV)
  | exn (c : Nat)
  deriving Inhabited

mutual
def toD : PV → PyData
  | .non => .none
  | .bl b => .bool b
  | .int i => .int i
  | .str s => .str s
  | .tup xs => .tuple (toDs xs)
  | .lst xs => .list (toDs xs)
  | .dct _ _ => .dict []
  | .fn _ => .dict []
  | .cl _ => .dict []
  | .ob _ => .dict []
  | .clo _ _ => .dict []
  | .exn _ => .dict []
def toDs : List PV → List PyData
  | [] => []
  | x :: xs => toD x :: toDs xs
end

mutual
/-- no closure within -/
def PV.data : PV → Bool
  | .tup xs => PV.datas xs
  | .lst xs => PV.datas xs
  | .dct ks vs => PV.datas ks && PV.datas vs
  | .clo _ _ => false
  | .exn _ => false
  | _ => true
def PV.datas : List PV → Bool
  | [] => true
  | x :: xs => x.data && PV.datas xs
end
/-- == -/
def pyEq (a b : PV) : Option Bool := if SeqAt.shaped (toD a) && SeqAt.shaped (toD b) then some (PyData.eqv (toD a) (toD b)) else none

/-- a name's place: nothing, a value, a list or dict of its own that may change -/
inductive Slot where
  | no | fr (v : PV) | own (v : PV)
  deriving Inhabited
/-- an object of a class of the program -/
structure Ob where
  cls : Nat
  fs : List (Str × PV)
  deriving Inhabited
structure Sta where
  env : List Slot
  obs : List Ob
  deriving Inhabited
/-- what an expression gives: a value, a new list or dict, the one that stands at a name -/
inductive RV where
  | fr (v : PV) | own (v : PV) | sl (i : Nat)
  deriving Inhabited
inductive R (α : Type) where
  | ok (a : α) (s : Sta) | exc (c : Nat) (s : Sta) | bad
def M (α : Type) : Type := Sta → R α
def M.pure {α : Type} (a : α) : M α := fun s => .ok a s
def R.bind {α β : Type} (r : R α) (f : α → M β) : R β := match r with
  | .ok a s => f a s
  | .exc c s => .exc c s
  | .bad => .bad
def M.bind {α β : Type} (m : M α) (f : α → M β) : M β := fun s => (m s).bind f
def M.bad {α : Type} : M α := fun _ => .bad
def M.ofO {α : Type} (o : Option α) : M α := fun s => match o with
  | some a => .ok a s
  | none => .bad
instance : Monad M where
  pure := M.pure
  bind := M.bind

def slotAt (i : Nat) (s : Sta) : Slot := s.env.getD i .no
def Sta.put (s : Sta) (i : Nat) (x : Slot) : Sta := { s with env := s.env.set i x }

/-- the value, as it stands -/
def deref (r : RV) : M PV := fun s => match r with
  | .fr v => .ok v s
  | .own v => .ok v s
  | .sl i => match slotAt i s with
    | .fr v => .ok v s
    | .own v => .ok v s
    | .no => .bad
/-- the value, and it is not changed any more -/
def frz (r : RV) : M PV := fun s => match r with
  | .fr v => .ok v s
  | .own v => .ok v s
  | .sl i => match slotAt i s with
    | .fr v => .ok v s
    | .own v => .ok v (s.put i (.fr v))
    | .no => .bad

/-! ### operators -/
inductive Bop where
  | add | sub | mul | fdv | mod | pow
  deriving DecidableEq, Repr
def lenOk (n : Nat) : Bool := decide (n ≤ 16000000)
def strRep (x : Str) (k : Int) : Str := if k < 1 then Str.empty else if (k == 1 || x.length == 0) = true then x else ⟨(List.replicate k.toNat x.cps).foldl (· ++ ·) #[]⟩
def opBin (op : Bop) (a b : PV) : Option RV := match op, a, b with
  | .add, .int i, .int j => some (.fr (.int (i + j)))
  | .add, .str x, .str y => if lenOk (x.length + y.length) then some (.fr (.str (x ++ y))) else none
  | .add, .tup xs, .tup ys => if lenOk (xs.length + ys.length) then some (.fr (.tup (xs ++ ys))) else none
  | .add, .lst xs, .lst ys => if lenOk (xs.length + ys.length) then some (.own (.lst (xs ++ ys))) else none
  | .sub, .int i, .int j => some (.fr (.int (i - j)))
  | .add, .bl b, .int j => some (.fr (.int ((if b = true then (1 : Int) else 0) + j)))
  | .sub, .bl b, .int j => some (.fr (.int ((if b = true then (1 : Int) else 0) - j)))
  | .mul, .int i, .int j => if decide (i.natAbs.log2 + j.natAbs.log2 < 1000000) then some (.fr (.int (i * j))) else none
  | .mul, .lst xs, .int k => if decide (0 ≤ k) && decide (k ≤ 1000) && decide (xs.length ≤ 1000) then some (.own (.lst (List.replicate k.toNat xs).flatten)) else none
  | .mul, .tup xs, .int k => if decide (0 ≤ k) && decide (k ≤ 1000) && decide (xs.length ≤ 1000) then some (.fr (.tup (List.replicate k.toNat xs).flatten)) else none
  | .mul, .str x, .int k => if decide (0 ≤ k) && decide (k ≤ 1000) && decide (x.length ≤ 1000) then some (.fr (.str (strRep x k))) else none
  | .fdv, .int i, .int j => if decide (0 < j) && decide (j.natAbs.log2 < 9000) then some (.fr (.int (i / j))) else none
  | .mod, .int i, .int j => if decide (0 < j) then some (.fr (.int (i % j))) else none
  | .pow, .int i, .int j => if decide (0 ≤ j) && decide (j ≤ 1000000) && decide (i.natAbs < 18446744073709551616) then some (.fr (.int (i ^ j.toNat))) else none
  | _, _, _ => none

inductive Cop where
  | eq | ne | lt | le | gt | ge | inn | nin | isx | isn
  deriving DecidableEq, Repr
/-- is one of the items equal -/
def pyIn (x : PV) (ys : List PV) : Option Bool := if SeqAt.shaped (toD x) && SeqAt.shaped (.list (toDs ys)) then some ((toDs ys).any fun z => PyData.eqv z (toD x)) else none
def opCmp (op : Cop) (a b : PV) : Option Bool := match op, a, b with
  | .eq, x, y => pyEq x y
  | .ne, x, y => (pyEq x y).map (!·)
  | .lt, .int i, .int j => some (decide (i < j))
  | .le, .int i, .int j => some (decide (i ≤ j))
  | .gt, .int i, .int j => some (decide (j < i))
  | .ge, .int i, .int j => some (decide (j ≤ i))
  | .inn, x, .lst ys => pyIn x ys
  | .inn, x, .tup ys => pyIn x ys
  | .nin, x, .lst ys => (pyIn x ys).map (!·)
  | .nin, x, .tup ys => (pyIn x ys).map (!·)
  | .inn, .str i, .str j => some (!(Builtin.Str.occurrences j i 0 j.length 1).isEmpty)
  | .nin, .str i, .str j => some (!(!(Builtin.Str.occurrences j i 0 j.length 1).isEmpty))
  | .isx, x, .non => some (match x with | .non => true | _ => false)
  | .isn, x, .non => some (match x with | .non => false | _ => true)
  | .isx, .bl b, .bl c => some (decide (b = c))
  | .isn, .bl b, .bl c => some (!decide (b = c))
  | .isx, .non, .bl _ => some false
  | .isn, .non, .bl _ => some true
  | _, _, _ => none

def cmpR (op : Cop) (a b : PV) : Option RV := (opCmp op a b).map fun r => .fr (.bl r)
def opIx (a i : PV) : Option PV := match a, i with
  | .lst xs, .int k => L2.atI xs k
  | .tup xs, .int k => L2.atI xs k
  | .str z, .int k => if lenOk z.length then (L2.atI z.cps.toList k).map fun c => .str ⟨#[c]⟩ else none
  | _, _ => none

def ixR (a b : PV) : Option RV := (opIx a b).map fun v => .fr v
/-! ### slices -/
/-- the items of xs[lo:hi] -/
def cutP (xs : List PV) (lo hi : Option Int) : List PV := (xs.drop (HT.sIx xs.length 0 lo)).take (HT.sIx xs.length xs.length hi - HT.sIx xs.length 0 lo)
def opSl (a : PV) (lo hi : Option Int) : Option RV := match a with
  | .lst xs => some (.own (.lst (cutP xs lo hi)))
  | .tup xs => some (.fr (.tup (cutP xs lo hi)))
  | .str z => if lenOk z.length then some (.fr (.str (Txt.slice z lo hi))) else none
  | _ => none
/-- xs[:0:-1] -/
def opRevT (a : PV) : Option RV := match a with
  | .lst (_ :: xs) => some (.own (.lst xs.reverse))
  | _ => none
/-- a value in an f-string -/
def opFmt (a : PV) : Option RV := match a with
  | .str y => if lenOk y.length then some (.fr (.str y)) else none
  | .int i => if decide (i.natAbs.log2 < 1920) then some (.fr (.str (Str.ofString (toString i)))) else none
  | _ => none
def opRev (a : PV) : Option RV := match a with
  | .lst xs => some (.own (.lst xs.reverse))
  | .tup xs => some (.fr (.tup xs.reverse))
  | _ => none

/-! ### built-ins -/
inductive Ty where
  | int | bool | str | list | tuple
  deriving DecidableEq, Repr
/-- isinstance of plain data -/
def isTy (T : Ty) (v : PV) : Option Bool := match v, T with
  | .non, _ => some false
  | .bl _, .int => some true
  | .bl _, .bool => some true
  | .bl _, _ => some false
  | .int _, .int => some true
  | .int _, _ => some false
  | .str _, .str => some true
  | .str _, _ => some false
  | .tup _, .tuple => some true
  | .tup _, _ => some false
  | .lst _, .list => some true
  | .lst _, _ => some false
  | _, _ => none
inductive Bi where
  | abs | all | any | bool | int | len | list | tuple | max | min | str | sum | sorted | sset
  | isA (T : Ty) | isX (c : Nat) | isV
  deriving DecidableEq, Repr
def intL : List PV → Option (List Int)
  | [] => some []
  | .int i :: r => (intL r).map (i :: ·)
  | _ :: _ => none
def bls : List PV → Option (List Bool)
  | [] => some []
  | .bl i :: r => (bls r).map (i :: ·)
  | _ :: _ => none
def strL : List PV → Option (List Str)
  | [] => some []
  | .str i :: r => (strL r).map (i :: ·)
  | _ :: _ => none
def maxI : List Int → Option Int
  | [] => none
  | x :: r => some (r.foldl max x)
def minI : List Int → Option Int
  | [] => none
  | x :: r => some (r.foldl min x)
def opBi (b : Bi) (as : List PV) : Option RV := match b, as with
  | .abs, [.int i] => some (.fr (.int (if i < 0 then -i else i)))
  | .all, [.lst xs] => (bls xs).map fun bs => .fr (.bl (bs.all id))
  | .any, [.lst xs] => (bls xs).map fun bs => .fr (.bl (bs.any id))
  | .bool, [.bl b] => some (.fr (.bl b))
  | .int, [.int i] => some (.fr (.int i))
  | .int, [.str z] => if decide (z.length ≤ 640) then (intText? z).map fun i => .fr (.int i) else none
  | .len, [.lst xs] => some (.fr (.int xs.length))
  | .len, [.tup xs] => some (.fr (.int xs.length))
  | .len, [.str z] => if lenOk z.length then some (.fr (.int z.length)) else none
  | .list, [.lst xs] => some (.own (.lst xs))
  | .list, [.tup xs] => some (.own (.lst xs))
  | .tuple, [.lst xs] => some (.fr (.tup xs))
  | .tuple, [.tup xs] => some (.fr (.tup xs))
  | .max, [.int i, .int j] => some (.fr (.int (if j > i then j else i)))
  | .max, [.lst xs] => (intL xs).bind fun ns => (maxI ns).map fun i => .fr (.int i)
  | .min, [.lst xs] => (intL xs).bind fun ns => (minI ns).map fun i => .fr (.int i)
  | .str, [.int i] => if decide (i.natAbs.log2 < 1920) then some (.fr (.str (Str.ofString (toString i)))) else none
  | .str, [.str z] => some (.fr (.str z))
  | .sum, [.lst xs] => (intL xs).map fun ns => .fr (.int ns.sum)
  | .isA T, [v] => (isTy T v).map fun b => .fr (.bl b)
  | .isX k, [.exn c] => some (.fr (.bl (c == k)))
  | .isV, [.exn _] => some (.fr (.bl true))
  | _, _ => none

inductive Tx where
  | split | join
  deriving DecidableEq, Repr
def opTx (k : Tx) (a : Str) (v : PV) : Option RV := match k, v with
  | .split, .str b => if !(b.length == 0) && lenOk a.length then some (.own (.lst ((Txt.split a b).map .str))) else none
  | .join, .lst xs => (strL xs).bind fun ys => if decide ((ys.map (·.length)).sum + ys.length * a.length ≤ 16777216) then some (.fr (.str (Txt.join a ys))) else none
  | _, _ => none
def asStr (v : PV) : M Str := fun s => match v with
  | .str z => .ok z s
  | _ => .bad
/-! ### the language -/
/-- targets -/
inductive Tg where
  | nm (i : Nat) | tp (ts : Tg) | nil | cons (t ts : Tg)
  deriving Inhabited, DecidableEq, Repr
inductive E where
  | var (i : Nat) | cst (v : PV)
  | bin (op : Bop) (a b : E) | neg (a : E)
  | nt (a : E) | an (a b : E) | orr (a b : E) | ite (c a b : E)
  | tup (as : E) | lst (as : E) | dct0 | dct1 (k v : E)
  | cmp (op : Cop) (a b : E) | chn (o p : Cop) (a b c : E)
  | callk (f d : Nat) (is : List Nat) (as : E) | call (f : Nat) (as : E) | callb (f i : Nat) (as : E) | callv (i : Nat) (fs ls : List Nat) (as : E)
  | bi (b : Bi) (as : E) | tx (k : Tx) (a b : E) | callx (f i : Nat) | zipL (a b : E)
  | ix (a b : E) | sl (a lo hi : E) | rev (a : E)
  | comp (elt : E) (tg : Tg) (it cond : E) (own : List Nat)
  | pop0 (i : Nat)
  | fmt (a : E) | js (as : E) | revt (a : E)
  | zip (a b : E) | rng1 (a : E) | rng2 (a b : E) | enm (a : E) | seqI (a : E)
  | nil | cons (a as : E)
  deriving Inhabited
inductive St where
  | skip | seq (a b : St)
  | asg (i : Nat) (e : E) | asgT (t : Tg) (e : E) | asgP (is : List Nat) (as : E)
  | ixs (i : Nat) (k v : E) | app (i : Nat) (e : E)
  | exp (e : E) | ret (e : E) | ifs (c : E) (a b : St) | whl (c : E) (b : St) | fr (t : Tg) (it : E) (b : St) | rais (c : Nat) | tryx (n : Nat) (b : St) (i : Nat) (h : E) | ix2 (i : Nat) (k : E) (j : Nat) (l : E) (as : E)
  deriving Inhabited

/-- how a call ends: its value (a new list or dict of nobody's?), what the list that was lent holds now -/
inductive CR where
  | ok (v : PV) (own : Bool) (out : PV) (obs : List Ob) | exc (c : Nat) (obs : List Ob) | bad
abbrev FT := Nat → List PV → List Ob → CR

def rv (v : PV) (own : Bool) : RV := if own then .own v else .fr v
def CR.toM (r : CR) : M RV := fun s => match r with
  | .ok v o _ obs => .ok (rv v o) { s with obs := obs }
  | .exc c obs => .exc c { s with obs := obs }
  | .bad => .bad
/-- behind a call that was lent the list at i -/
def CR.toMb (r : CR) (i : Nat) : M RV := fun s => match r with
  | .ok v o out obs => .ok (rv v o) { env := s.env.set i (.own out), obs := obs }
  | .exc _ _ => .bad
  | .bad => .bad
/-- behind a call that was handed a closure: none is kept -/
def CR.keep (r : CR) : CR := match r with
  | .ok v o out obs => if v.data then .ok v o out obs else .bad
  | r => r
/-- a value is called -/
def okV (fs ls : List Nat) (v : PV) : Bool := match v with
  | .fn f => fs.contains f
  | .clo d _ => ls.contains d
  | _ => false
def callV (F : FT) (v : PV) (vs : List PV) (obs : List Ob) : M RV := match v with
  | .fn f => (F f vs obs).toM
  | .clo d ws => if PV.datas vs then (F d (vs ++ ws) obs).toM else M.bad
  | _ => M.bad
def frAt (i : Nat) : M PV := fun s => match slotAt i s with
  | .fr v => .ok v s
  | _ => .bad
def asExn (v : PV) : M PV := fun s => match v with
  | .exn c => .ok (.exn c) s
  | _ => .bad
def frzs : List Nat → M (List PV)
  | [] => pure []
  | i :: is => do
    let v ← frAt i
    let vs ← frzs is
    pure (v :: vs)
def ownAt (i : Nat) : M PV := fun s => match slotAt i s with
  | .own v => .ok v s
  | _ => .bad
def getS : M Sta := fun s => .ok s s
def setS (s : Sta) : M Unit := fun _ => .ok () s
def asBl (v : PV) : M Bool := fun s => match v with
  | .bl b => .ok b s
  | _ => .bad
mutual
def setTg : Tg → PV → M Unit
  | .nm i, v => fun s => .ok () (s.put i (.fr v))
  | .tp ts, v => match v with
    | .tup xs => setTgs ts xs
    | _ => M.bad
  | _, _ => M.bad
def setTgs : Tg → List PV → M Unit
  | .nil, [] => pure ()
  | .cons t ts, x :: xs => do setTg t x; setTgs ts xs
  | _, _ => M.bad
end
/-- what is walked -/
def seqOf (v : PV) : M (List PV) := fun s => match v with
  | .lst xs => .ok xs s
  | .tup xs => .ok xs s
  | _ => .bad
def zipP (xs ys : List PV) : List PV := (xs.zip ys).map fun p => .tup [p.1, p.2]
def enmP (xs : List PV) : List PV := (List.range xs.length).zip xs |>.map fun p => .tup [.int p.1, p.2]
def zipLM (x y : PV) : M (List PV) := fun s => match x, y with
  | .lst xs, .lst ys => .ok (zipP xs ys) s
  | _, _ => .bad
def zipM (x y : PV) : M (List PV) := match x, y with
  | .lst xs, .lst ys => pure (zipP xs ys)
  | .tup xs, .tup ys => pure (zipP xs ys)
  | _, _ => M.bad
def enmM (x : PV) : M (List PV) := match x with
  | .lst xs => pure (enmP xs)
  | _ => M.bad
def rngP (lo hi : Int) : List PV := (List.range (hi - lo).toNat).map fun (k : Nat) => .int (lo + (k : Int))
def small62 (i : Int) : Bool := match i with
  | .ofNat n => Nat.blt n 4611686018427387904
  | .negSucc n => Nat.blt n 4611686018427387904
theorem small62_of {i : Int} (h : -4611686018427387904 ≤ i) (h' : i < 4611686018427387904) : small62 i = true := by
  cases i with
  | ofNat n => simp only [small62, Nat.blt_eq]; simp only [Int.ofNat_eq_natCast] at h h'; omega
  | negSucc n => simp only [small62, Nat.blt_eq]; omega
def Sta.wipe (s : Sta) (is : List Nat) : Sta := { s with env := is.foldl (fun e i => e.set i .no) s.env }
def wipeM (is : List Nat) : M Unit := fun s => .ok () (s.wipe is)
def compGo (own : List Nat) (g : PV → M Unit) (c : M Bool) (e : M PV) : List PV → List PV → M (List PV)
  | [], acc => do
    wipeM own
    pure acc
  | v :: vs, acc => do
    wipeM own
    g v
    let b ← c
    if b then do
      let y ← e
      compGo own g c e vs (acc ++ [y])
    else compGo own g c e vs acc
def bound (v : Option PV) : Option (Option Int) := match v with
  | none => some none
  | some (.int i) => some (some i)
  | _ => none

/-- a truth value -/
def rvB (r : RV) : M Bool := fun s => match r with
  | .fr (.bl b) => .ok b s
  | _ => .bad
def rvI (r : RV) : M Int := fun s => match r with
  | .fr (.int b) => .ok b s
  | _ => .bad
/-- no exception leaves it -/
def noX {α : Type} (m : M α) : M α := fun s => match m s with
  | .ok a s => .ok a s
  | _ => .bad
/-- a slice's part -/
def partO (e : E) (m : M RV) : M (Option Int) := match e with
  | .nil => pure none
  | _ => do
    let x ← m
    let i ← rvI x
    pure (some i)
/-- a clause's test, or none -/
def condB (e : E) (m : M RV) : M Bool := match e with
  | .nil => pure true
  | _ => m >>= rvB
variable (F : FT)
mutual
def dE : E → M RV
  | .var i => fun s => match slotAt i s with
    | .fr v => .ok (.fr v) s
    | .own _ => .ok (.sl i) s
    | .no => .bad
  | .cst v => pure (.fr v)
  | .bin op a b => do
    let x ← dE a
    let y ← dE b
    let x ← deref x
    let y ← deref y
    M.ofO (opBin op x y)
  | .neg a => do
    let x ← dE a
    let i ← rvI x
    pure (.fr (.int (-i)))
  | .nt a => do
    let b ← dE a >>= rvB
    pure (.fr (.bl (!b)))
  | .an a b => do
    let x ← dE a >>= rvB
    if x then do
      let y ← dE b >>= rvB
      pure (.fr (.bl y))
    else pure (.fr (.bl false))
  | .orr a b => do
    let x ← dE a >>= rvB
    if x then pure (.fr (.bl true)) else do
      let y ← dE b >>= rvB
      pure (.fr (.bl y))
  | .ite c a b => do
    let x ← dE c >>= rvB
    if x then dE a else dE b
  | .tup as => do
    let vs ← dA as
    if lenOk vs.length then pure (.fr (.tup vs)) else M.bad
  | .lst as => do
    let vs ← dA as
    if lenOk vs.length then pure (.own (.lst vs)) else M.bad
  | .dct0 => pure (.own (.dct [] []))
  | .dct1 k v => do
    let x ← dE k
    let x ← frz x
    let y ← dE v
    let y ← frz y
    pure (.own (.dct [x] [y]))
  | .cmp op a b => do
    let x ← dE a
    let y ← dE b
    let x ← deref x
    let y ← deref y
    M.ofO (cmpR op x y)
  | .chn o p a b c => do
    let x ← dE a
    let ry ← dE b
    let x ← deref x
    let y ← deref ry
    let r ← M.ofO (opCmp o x y)
    if r then do
      let z ← dE c
      let y ← deref ry
      let z ← deref z
      M.ofO (cmpR p y z)
    else pure (.fr (.bl false))
  | .call f as => do
    let vs ← dA as
    let s ← getS
    (F f vs s.obs).toM
  | .callb f i as => do
    let _ ← ownAt i
    let vs ← dA as
    let c ← ownAt i
    let s ← getS
    (F f (c :: vs) s.obs).toMb i
  | .callk f d is as => do
    let vs ← dA as
    let ws ← frzs is
    let s ← getS
    (F f (.clo d ws :: vs) s.obs).keep.toM
  | .callv i fs ls as => do
    let v ← frAt i
    if okV fs ls v then do
      let vs ← dA as
      let s ← getS
      callV F v vs s.obs
    else M.bad
  | .bi b as => do
    let vs ← dD as
    M.ofO (opBi b vs)
  | .callx f i => do
    let v ← frAt i
    let v ← asExn v
    let s ← getS
    (F f [v] s.obs).keep.toM
  | .tx k a b => do
    let x ← dE a
    let x ← deref x
    let z ← asStr x
    let y ← dE b
    let y ← deref y
    M.ofO (opTx k z y)
  | .ix a b => do
    let x ← dE a
    let y ← dE b
    let x ← deref x
    let y ← deref y
    M.ofO (ixR x y)
  | .sl a lo hi => do
    let x ← dE a
    let l ← partO lo (dE lo)
    let h ← partO hi (dE hi)
    let x ← deref x
    M.ofO (opSl x l h)
  | .rev a => do
    let x ← dE a
    let x ← deref x
    M.ofO (opRev x)
  | .comp elt tg it cond own => do
    let vs ← dI it
    let ys ← noX (compGo own (setTg tg) (condB cond (dE cond)) (do let y ← dE elt; frz y) vs [])
    pure (.own (.lst ys))
  | .pop0 i => fun s => match slotAt i s with
    | .own (.lst (x :: xs)) => .ok (.fr x) (s.put i (.own (.lst xs)))
    | _ => .bad
  | .fmt a => do
    let x ← dE a
    let x ← deref x
    M.ofO (opFmt x)
  | .revt a => do
    let x ← dE a
    let x ← deref x
    M.ofO (opRevT x)
  | .js as => do
    let z ← dJ as Str.empty
    pure (.fr (.str z))
  | _ => M.bad
/-- the parts of an f-string -/
def dJ : E → Str → M Str
  | .nil, acc => pure acc
  | .cons a as, acc => do
    let x ← dE a
    let x ← deref x
    let y ← asStr x
    if lenOk (acc ++ y).length then dJ as (acc ++ y) else M.bad
  | _, _ => M.bad
/-- arguments, not changed any more -/
def dA : E → M (List PV)
  | .nil => pure []
  | .cons a as => do
    let x ← dE a
    let x ← frz x
    let xs ← dA as
    pure (x :: xs)
  | _ => M.bad
/-- arguments that are only read -/
def dD : E → M (List PV)
  | .nil => pure []
  | .cons a as => do
    let x ← dE a
    let xs ← dD as
    let x ← deref x
    pure (x :: xs)
  | _ => M.bad
def dI : E → M (List PV)
  | .zip a b => do
    let x ← dE a
    let x ← frz x
    let y ← dE b
    let y ← frz y
    zipM x y
  | .zipL a b => do
    let x ← dE a
    let x ← frz x
    let y ← dE b
    let y ← frz y
    zipLM x y
  | .rng1 a => do
    let x ← dE a
    let i ← rvI x
    if small62 i && lenOk (rngP 0 i).length then pure (rngP 0 i) else M.bad
  | .rng2 a b => do
    let x ← dE a
    let y ← dE b
    let i ← rvI x
    let j ← rvI y
    if (small62 i && small62 j) && lenOk (rngP i j).length then pure (rngP i j) else M.bad
  | .enm a => do
    let x ← dE a
    let x ← frz x
    enmM x
  | .seqI a => do
    let x ← dE a
    let x ← frz x
    seqOf x
  | _ => M.bad
end

/-! ### statements -/
/-- how a statement ends -/
inductive Fl where
  | nx | ret (r : RV)
  deriving Inhabited
/-- before a value goes to the name i: another name's own list is frozen -/
def settle (i : Nat) (r : RV) : M RV := match r with
  | .sl j => if j = i then pure r else do
    let v ← frz r
    pure (.fr v)
  | _ => pure r
/-- no name's own list any more -/
def noSl (r : RV) : M RV := match r with
  | .sl _ => do
    let v ← frz r
    pure (.fr v)
  | _ => pure r
/-- a value goes to a name -/
def setV (i : Nat) (r : RV) : M Unit := fun s => match r with
  | .fr v => .ok () (s.put i (.fr v))
  | .own v => .ok () (s.put i (.own v))
  | .sl j => if j = i then .ok () s else .bad
def setVs : List Nat → List RV → M Unit
  | [], [] => pure ()
  | i :: is, r :: rs => do setV i r; setVs is rs
  | _, _ => M.bad
/-- x[k] = v -/
def setIx (c k v : PV) : Option PV := match c, k with
  | .lst xs, .int i => if 0 ≤ i then (if i.toNat < xs.length then some (.lst (xs.set i.toNat v)) else none) else none
  | _, _ => none
def appV (c v : PV) : Option PV := match c with
  | .lst xs => if lenOk xs.length then some (.lst (xs ++ [v])) else none
  | _ => none
def putM (i : Nat) (x : Slot) : M Unit := fun s => .ok () (s.put i x)
def forGo (g : PV → M Unit) (b : M Fl) : List PV → M Fl
  | [] => pure .nx
  | v :: vs => do
    g v
    let f ← b
    match f with
    | .nx => forGo g b vs
    | .ret r => pure (.ret r)
def whlGo (c : M Bool) (b : M Fl) : Nat → M Fl
  | 0 => M.bad
  | n + 1 => do
    let x ← c
    if x then do
      let f ← b
      match f with
      | .nx => whlGo c b n
      | .ret r => pure (.ret r)
    else pure .nx
/-- the values of a display, as they come -/
def dV (F : FT) : E → M (List RV)
  | .nil => pure []
  | .cons a as => do
    let x ← dE F a
    let x ← noSl x
    let xs ← dV F as
    pure (x :: xs)
  | _ => M.bad
def raiseM {α : Type} (c : Nat) : M α := fun s => .exc c s
/-- x[..] = v, v there -/
def ixM (i : Nat) (g : M RV) (v : PV) : M Unit := do
  let _ ← ownAt i
  let r ← g
  let k ← frz r
  let c ← ownAt i
  let c ← M.ofO (setIx c k v)
  putM i (.own c)
def ix2M (i : Nat) (g : M RV) (j : Nat) (h : M RV) (as : M (List PV)) : M Fl := do
  let vs ← as
  match vs with
  | [v, u] => do
    ixM i g v
    ixM j h u
    pure .nx
  | _ => M.bad
/-- an exception is caught and a value returned -/
def tryM (n i : Nat) (b : M Fl) (h : M RV) : M Fl := fun s => match b s with
  | .exc c s' => if c < n then (match h (s'.put i (.fr (.exn c))) with
    | .ok (.fr v) s2 => if v.data then .ok (.ret (.fr v)) ⟨s2.env.map (fun _ => .no), s2.obs⟩ else .bad
    | _ => .bad) else .bad
  | r => r
def dS (F : FT) : St → M Fl
  | .skip => pure .nx
  | .seq a b => do
    let f ← dS F a
    match f with
    | .nx => dS F b
    | .ret r => pure (.ret r)
  | .asg i e => do
    let r ← dE F e
    let r ← settle i r
    setV i r
    pure .nx
  | .asgT t e => do
    let r ← dE F e
    let v ← frz r
    setTg t v
    pure .nx
  | .asgP is as => do
    let rs ← dV F as
    setVs is rs
    pure .nx
  | .ixs i k v => do
    let r ← dE F v
    let v ← frz r
    let _ ← ownAt i
    let r ← dE F k
    let k ← frz r
    let c ← ownAt i
    let c ← M.ofO (setIx c k v)
    putM i (.own c)
    pure .nx
  | .app i e => do
    let _ ← ownAt i
    let r ← dE F e
    let v ← frz r
    let c ← ownAt i
    let c ← M.ofO (appV c v)
    putM i (.own c)
    pure .nx
  | .exp e => do
    let _ ← dE F e
    pure .nx
  | .ret e => do
    let r ← dE F e
    pure (.ret r)
  | .ifs c a b => do
    let x ← dE F c >>= rvB
    if x then dS F a else dS F b
  | .whl c b => whlGo (dE F c >>= rvB) (dS F b) 1000
  | .fr t it b => do
    let vs ← dI F it
    forGo (setTg t) (dS F b) vs
  | .rais c => raiseM c
  | .tryx n b i h => tryM n i (dS F b) (dE F h)
  | .ix2 i k j l as => ix2M i (dE F k) j (dE F l) (dA F as)

/-! ### defs -/
structure Def where
  np : Nat
  ns : Nat
  body : St
  lent : Bool := false
  deriving Inhabited
def slots0 (d : Def) (as : List PV) : List Slot := (match d.lent, as with
  | true, a :: r => .own a :: r.map .fr
  | _, as => as.map .fr) ++ List.replicate (d.ns - as.length) .no
/-- what the list that was lent holds at the end -/
def outOf (d : Def) (s : Sta) : Option PV := if d.lent then (match slotAt 0 s with | .own v => some v | _ => none) else some .non
def endC (d : Def) (r : R Fl) : CR := match r with
  | .ok .nx s => match outOf d s with
    | some o => .ok .non false o s.obs
    | none => .bad
  | .ok (.ret (.fr v)) s => match outOf d s with
    | some o => .ok v false o s.obs
    | none => .bad
  | .ok (.ret (.own v)) s => match outOf d s with
    | some o => .ok v true o s.obs
    | none => .bad
  | .ok (.ret (.sl i)) s => if d.lent && i == 0 then .bad else match slotAt i s, outOf d s with
    | .own v, some o => .ok v true o s.obs
    | .fr v, some o => .ok v false o s.obs
    | _, _ => .bad
  | .exc c s => if d.lent then .bad else .exc c s.obs
  | .bad => .bad
def callF (D : Nat → Option Def) : Nat → FT
  | 0, _, _, _ => .bad
  | n + 1, f, as, obs => match D f with
    | none => .bad
    | some d => if as.length = d.np then endC d (dS (callF D n) d.body ⟨slots0 d as, obs⟩) else .bad
end Qv
end
section
set_option Elab.async false
set_option linter.all false
set_option autoImplicit true
/-! W1: rules by which core terms are run -/
namespace Qv
open PySem
section
variable {F : FT} {s : Sta} {α β γ : Type}
theorem R.bind_ok {a : α} {f : α → M β} : (R.ok a s).bind f = f a s := rfl
theorem R.bind_exc {c : Nat} {f : α → M β} : (R.exc c s : R α).bind f = .exc c s := rfl
theorem R.bind_bad {f : α → M β} : (R.bad : R α).bind f = .bad := rfl
theorem R.bind_assoc {r : R α} {f : α → M β} {g : β → M γ} : (r.bind f).bind g = r.bind (fun a s => (f a s).bind g) := by cases r <;> rfl
def slE (i : Nat) (x : Slot) : M RV := fun s => match x with
  | .fr v => .ok (.fr v) s
  | .own _ => .ok (.sl i) s
  | .no => .bad
theorem slE_fr {v : PV} : slE i (.fr v) s = .ok (.fr v) s := rfl
theorem slE_own {v : PV} : slE i (.own v) s = .ok (.sl i) s := rfl
def slD (x : Slot) : M PV := fun s => match x with
  | .fr v => .ok v s
  | .own v => .ok v s
  | .no => .bad
theorem slD_fr {v : PV} : slD (.fr v) s = .ok v s := rfl
theorem slD_own {v : PV} : slD (.own v) s = .ok v s := rfl
def slF (i : Nat) (x : Slot) : M PV := fun s => match x with
  | .fr v => .ok v s
  | .own v => .ok v (s.put i (.fr v))
  | .no => .bad
theorem slF_fr {v : PV} : slF i (.fr v) s = .ok v s := rfl
theorem slF_own {v : PV} : slF i (.own v) s = .ok v (s.put i (.fr v)) := rfl
def slW (x : Slot) : M PV := fun s => match x with
  | .own v => .ok v s
  | _ => .bad
theorem slW_own {v : PV} : slW (.own v) s = .ok v s := rfl
def slR (x : Slot) : M PV := fun s => match x with
  | .fr v => .ok v s
  | _ => .bad
theorem slR_fr {v : PV} : slR (.fr v) s = .ok v s := rfl
theorem deref_fr {v : PV} : deref (.fr v) s = .ok v s := rfl
theorem deref_own {v : PV} : deref (.own v) s = .ok v s := rfl
theorem deref_sl : deref (.sl i) s = slD (slotAt i s) s := rfl
theorem frz_fr {v : PV} : frz (.fr v) s = .ok v s := rfl
theorem frz_own {v : PV} : frz (.own v) s = .ok v s := rfl
theorem frz_sl : frz (.sl i) s = slF i (slotAt i s) s := rfl
theorem ownAt_eq : ownAt i s = slW (slotAt i s) s := rfl
theorem frAt_eq : frAt i s = slR (slotAt i s) s := rfl
theorem ofO_some {a : α} : M.ofO (some a) s = .ok a s := rfl
theorem ofO_none : (M.ofO (none : Option α)) s = .bad := rfl
theorem rvB_fr {b : Bool} : rvB (.fr (.bl b)) s = .ok b s := rfl
theorem rvI_fr {b : Int} : rvI (.fr (.int b)) s = .ok b s := rfl
def andG (x : Bool) (m : M Bool) : M Bool := fun s => if x = true then m s else .ok false s
def orG (x : Bool) (m : M Bool) : M Bool := fun s => if x = true then .ok true s else m s
theorem andG_t {m : M Bool} : andG true m s = m s := rfl
theorem andG_f {m : M Bool} : andG false m s = .ok false s := rfl
theorem orG_t {m : M Bool} : orG true m s = .ok true s := rfl
theorem orG_f {m : M Bool} : orG false m s = m s := rfl
/-- the second part is a plain truth value -/
theorem andG_ok {b : Bool} {m : M Bool} (h : m s = .ok b s) : andG x m s = .ok (x && b) s := by cases x; rfl; exact h
theorem orG_ok {b : Bool} {m : M Bool} (h : m s = .ok b s) : orG x m s = .ok (x || b) s := by cases x; exact h; rfl
def ifR (x : Bool) (m k : M α) : M α := fun s => if x = true then m s else k s
theorem ifR_t {m k : M α} : ifR true m k s = m s := rfl
theorem ifR_f {m k : M α} : ifR false m k s = k s := rfl
theorem ifR_both {m k : M α} {r : R α} (h : m s = r) (h' : k s = r) : ifR x m k s = r := by cases x; exact h'; exact h
def okM (a : α) : M α := fun s => .ok a s
theorem okM_eq {a : α} : okM a s = .ok a s := rfl
def badM : M α := fun _ => .bad
theorem badM_eq : (badM : M α) s = .bad := rfl
/-- what follows a statement -/
def thenS (m : M Fl) (f : Fl) : M Fl := fun s => match f with
  | .nx => m s
  | .ret r => .ok (.ret r) s
theorem thenS_nx {m : M Fl} : thenS m .nx s = m s := rfl
theorem thenS_ret {m : M Fl} : thenS m (.ret r) s = .ok (.ret r) s := rfl
def pop0S (i : Nat) (x : Slot) : M RV := fun s => match x with
  | .own (.lst (x :: xs)) => .ok (.fr x) (s.put i (.own (.lst xs)))
  | _ => .bad
theorem pop0S_cons : pop0S i (.own (.lst (x :: xs))) s = .ok (.fr x) (s.put i (.own (.lst xs))) := rfl
theorem e_var {i : Nat} : dE F (.var i) s = slE i (slotAt i s) s := rfl
theorem e_cst {v : PV} : dE F (.cst v) s = .ok (.fr v) s := rfl
def k_e_bin4 (op : Bop) (x : PV) (y : PV) : M RV := fun s => M.ofO (opBin op x y) s
theorem k_e_bin4_eq {op : Bop} {x : PV} {y : PV} : k_e_bin4 op x y s = M.ofO (opBin op x y) s := rfl
def k_e_bin3 (y : RV) (op : Bop) (x : PV) : M RV := fun s => (deref y s).bind (k_e_bin4 op x)
theorem k_e_bin3_eq {y : RV} {op : Bop} {x : PV} : k_e_bin3 y op x s = (deref y s).bind (k_e_bin4 op x) := rfl
def k_e_bin2 (x : RV) (op : Bop) (y : RV) : M RV := fun s => (deref x s).bind (k_e_bin3 y op)
theorem k_e_bin2_eq {x : RV} {op : Bop} {y : RV} : k_e_bin2 x op y s = (deref x s).bind (k_e_bin3 y op) := rfl
def k_e_bin1 (F : FT) (b : E) (op : Bop) (x : RV) : M RV := fun s => (dE F b s).bind (k_e_bin2 x op)
theorem k_e_bin1_eq {F : FT} {b : E} {op : Bop} {x : RV} : k_e_bin1 F b op x s = (dE F b s).bind (k_e_bin2 x op) := rfl
theorem e_bin {op : Bop} {a : E} {b : E} : dE F (.bin op a b) s = (dE F a s).bind (k_e_bin1 F b op) := rfl
def k_e_neg2 (i : Int) : M RV := fun s => .ok (.fr (.int (-i))) s
theorem k_e_neg2_eq {i : Int} : k_e_neg2 i s = .ok (.fr (.int (-i))) s := rfl
def k_e_neg1 (x : RV) : M RV := fun s => (rvI x s).bind k_e_neg2
theorem k_e_neg1_eq {x : RV} : k_e_neg1 x s = (rvI x s).bind k_e_neg2 := rfl
theorem e_neg {a : E} : dE F (.neg a) s = (dE F a s).bind k_e_neg1 := rfl
def ntB (x : Bool) : M RV := fun s => .ok (.fr (.bl (!x))) s
theorem ntB_eq : ntB x s = .ok (.fr (.bl (!x))) s := rfl
def blK (x : Bool) : M RV := fun s => .ok (.fr (.bl x)) s
theorem blK_eq : blK x s = .ok (.fr (.bl x)) s := rfl
def condE (F : FT) (a : E) : M Bool := fun s => (dE F a s).bind rvB
theorem condE_eq {a : E} : condE F a s = (dE F a s).bind rvB := rfl
def k_e_nt1 (x : Bool) : M RV := fun s => .ok (.fr (.bl (!x))) s
theorem k_e_nt1_eq {x : Bool} : k_e_nt1 x s = .ok (.fr (.bl (!x))) s := rfl
theorem e_nt {a : E} : dE F (.nt a) s = (condE F a s).bind k_e_nt1 := rfl
def k_e_an2 (x : Bool) : M RV := fun s => .ok (.fr (.bl x)) s
theorem k_e_an2_eq {x : Bool} : k_e_an2 x s = .ok (.fr (.bl x)) s := rfl
def k_e_an1 (F : FT) (b : E) (x : Bool) : M RV := fun s => (andG x (condE F b) s).bind k_e_an2
theorem k_e_an1_eq {F : FT} {b : E} {x : Bool} : k_e_an1 F b x s = (andG x (condE F b) s).bind k_e_an2 := rfl
theorem e_an {a : E} {b : E} : dE F (.an a b) s = (condE F a s).bind (k_e_an1 F b) := by show (condE F a s).bind _ = _; congr 1; funext x s; cases x <;> rfl
def k_e_orr2 (x : Bool) : M RV := fun s => .ok (.fr (.bl x)) s
theorem k_e_orr2_eq {x : Bool} : k_e_orr2 x s = .ok (.fr (.bl x)) s := rfl
def k_e_orr1 (F : FT) (b : E) (x : Bool) : M RV := fun s => (orG x (condE F b) s).bind k_e_orr2
theorem k_e_orr1_eq {F : FT} {b : E} {x : Bool} : k_e_orr1 F b x s = (orG x (condE F b) s).bind k_e_orr2 := rfl
theorem e_orr {a : E} {b : E} : dE F (.orr a b) s = (condE F a s).bind (k_e_orr1 F b) := by show (condE F a s).bind _ = _; congr 1; funext x s; cases x <;> rfl
def k_e_ite1 (F : FT) (a : E) (b : E) (x : Bool) : M RV := fun s => ifR x (dE F a) (dE F b) s
theorem k_e_ite1_eq {F : FT} {a : E} {b : E} {x : Bool} : k_e_ite1 F a b x s = ifR x (dE F a) (dE F b) s := rfl
theorem e_ite {c : E} {a : E} {b : E} : dE F (.ite c a b) s = (condE F c s).bind (k_e_ite1 F a b) := by show (condE F c s).bind _ = _; congr 1; funext x s; cases x <;> rfl
def k_e_tup1 (vs : List PV) : M RV := fun s => ifR (lenOk vs.length) (okM (.fr (.tup vs))) badM s
theorem k_e_tup1_eq {vs : List PV} : k_e_tup1 vs s = ifR (lenOk vs.length) (okM (.fr (.tup vs))) badM s := rfl
theorem e_tup {as : E} : dE F (.tup as) s = (dA F as s).bind k_e_tup1 := by show (dA F as s).bind _ = _; congr 1; funext x s; show (if lenOk x.length = true then _ else _ : M RV) s = _; simp only [k_e_tup1, ifR]; split <;> rfl
def k_e_lst1 (vs : List PV) : M RV := fun s => ifR (lenOk vs.length) (okM (.own (.lst vs))) badM s
theorem k_e_lst1_eq {vs : List PV} : k_e_lst1 vs s = ifR (lenOk vs.length) (okM (.own (.lst vs))) badM s := rfl
theorem e_lst {as : E} : dE F (.lst as) s = (dA F as s).bind k_e_lst1 := by show (dA F as s).bind _ = _; congr 1; funext x s; show (if lenOk x.length = true then _ else _ : M RV) s = _; simp only [k_e_lst1, ifR]; split <;> rfl
def k_e_cmp4 (op : Cop) (x : PV) (y : PV) : M RV := fun s => M.ofO (cmpR op x y) s
theorem k_e_cmp4_eq {op : Cop} {x : PV} {y : PV} : k_e_cmp4 op x y s = M.ofO (cmpR op x y) s := rfl
def k_e_cmp3 (y : RV) (op : Cop) (x : PV) : M RV := fun s => (deref y s).bind (k_e_cmp4 op x)
theorem k_e_cmp3_eq {y : RV} {op : Cop} {x : PV} : k_e_cmp3 y op x s = (deref y s).bind (k_e_cmp4 op x) := rfl
def k_e_cmp2 (x : RV) (op : Cop) (y : RV) : M RV := fun s => (deref x s).bind (k_e_cmp3 y op)
theorem k_e_cmp2_eq {x : RV} {op : Cop} {y : RV} : k_e_cmp2 x op y s = (deref x s).bind (k_e_cmp3 y op) := rfl
def k_e_cmp1 (F : FT) (b : E) (op : Cop) (x : RV) : M RV := fun s => (dE F b s).bind (k_e_cmp2 x op)
theorem k_e_cmp1_eq {F : FT} {b : E} {op : Cop} {x : RV} : k_e_cmp1 F b op x s = (dE F b s).bind (k_e_cmp2 x op) := rfl
theorem e_cmp {op : Cop} {a : E} {b : E} : dE F (.cmp op a b) s = (dE F a s).bind (k_e_cmp1 F b op) := rfl
def chnR (F : FT) (p : Cop) (ry : RV) (c : E) : M Bool := fun s => (dE F c s).bind fun z s => (deref ry s).bind fun y s => (deref z s).bind fun z s => M.ofO (opCmp p y z) s
def k_chnR_eq3 (p : Cop) (y : PV) (z : PV) : M Bool := fun s => M.ofO (opCmp p y z) s
theorem k_chnR_eq3_eq {p : Cop} {y : PV} {z : PV} : k_chnR_eq3 p y z s = M.ofO (opCmp p y z) s := rfl
def k_chnR_eq2 (z : RV) (p : Cop) (y : PV) : M Bool := fun s => (deref z s).bind (k_chnR_eq3 p y)
theorem k_chnR_eq2_eq {z : RV} {p : Cop} {y : PV} : k_chnR_eq2 z p y s = (deref z s).bind (k_chnR_eq3 p y) := rfl
def k_chnR_eq1 (ry : RV) (p : Cop) (z : RV) : M Bool := fun s => (deref ry s).bind (k_chnR_eq2 z p)
theorem k_chnR_eq1_eq {ry : RV} {p : Cop} {z : RV} : k_chnR_eq1 ry p z s = (deref ry s).bind (k_chnR_eq2 z p) := rfl
theorem chnR_eq {p : Cop} {ry : RV} {c : E} : chnR F p ry c s = (dE F c s).bind (k_chnR_eq1 ry p) := rfl
def k_e_chn6 (r : Bool) : M RV := fun s => .ok (.fr (.bl r)) s
theorem k_e_chn6_eq {r : Bool} : k_e_chn6 r s = .ok (.fr (.bl r)) s := rfl
def k_e_chn5 (F : FT) (p : Cop) (ry : RV) (c : E) (r : Bool) : M RV := fun s => (andG r (chnR F p ry c) s).bind k_e_chn6
theorem k_e_chn5_eq {F : FT} {p : Cop} {ry : RV} {c : E} {r : Bool} : k_e_chn5 F p ry c r s = (andG r (chnR F p ry c) s).bind k_e_chn6 := rfl
def k_e_chn4 (o : Cop) (x : PV) (F : FT) (p : Cop) (ry : RV) (c : E) (y : PV) : M RV := fun s => (M.ofO (opCmp o x y) s).bind (k_e_chn5 F p ry c)
theorem k_e_chn4_eq {o : Cop} {x : PV} {F : FT} {p : Cop} {ry : RV} {c : E} {y : PV} : k_e_chn4 o x F p ry c y s = (M.ofO (opCmp o x y) s).bind (k_e_chn5 F p ry c) := rfl
def k_e_chn3 (ry : RV) (o : Cop) (F : FT) (p : Cop) (c : E) (x : PV) : M RV := fun s => (deref ry s).bind (k_e_chn4 o x F p ry c)
theorem k_e_chn3_eq {ry : RV} {o : Cop} {F : FT} {p : Cop} {c : E} {x : PV} : k_e_chn3 ry o F p c x s = (deref ry s).bind (k_e_chn4 o x F p ry c) := rfl
def k_e_chn2 (x : RV) (o : Cop) (F : FT) (p : Cop) (c : E) (ry : RV) : M RV := fun s => (deref x s).bind (k_e_chn3 ry o F p c)
theorem k_e_chn2_eq {x : RV} {o : Cop} {F : FT} {p : Cop} {c : E} {ry : RV} : k_e_chn2 x o F p c ry s = (deref x s).bind (k_e_chn3 ry o F p c) := rfl
def k_e_chn1 (F : FT) (b : E) (o : Cop) (p : Cop) (c : E) (x : RV) : M RV := fun s => (dE F b s).bind (k_e_chn2 x o F p c)
theorem k_e_chn1_eq {F : FT} {b : E} {o : Cop} {p : Cop} {c : E} {x : RV} : k_e_chn1 F b o p c x s = (dE F b s).bind (k_e_chn2 x o F p c) := rfl
theorem e_chn {o : Cop} {p : Cop} {a : E} {b : E} {c : E} : dE F (.chn o p a b c) s = (dE F a s).bind (k_e_chn1 F b o p c) := by
  show (dE F a s).bind _ = _
  congr 1; funext x s; show (dE F b s).bind _ = (dE F b s).bind _
  congr 1; funext ry s; show (deref x s).bind _ = (deref x s).bind _
  congr 1; funext x s; show (deref ry s).bind _ = (deref ry s).bind _
  congr 1; funext y s; show (M.ofO (opCmp o x y) s).bind _ = (M.ofO (opCmp o x y) s).bind _
  congr 1; funext r s
  cases r
  · rfl
  · show (dE F c s).bind _ = (chnR F p ry c s).bind _
    unfold chnR
    cases dE F c s with
    | exc => rfl
    | bad => rfl
    | ok z s =>
      show (deref ry s).bind _ = ((deref ry s).bind _).bind _
      cases deref ry s with
      | exc => rfl
      | bad => rfl
      | ok y s =>
        show (deref z s).bind _ = ((deref z s).bind _).bind _
        cases deref z s with
        | exc => rfl
        | bad => rfl
        | ok z s =>
          show M.ofO (cmpR p y z) s = (M.ofO (opCmp p y z) s).bind _
          unfold cmpR; cases opCmp p y z <;> rfl
def callR (F : FT) (f : Nat) (vs : List PV) : M RV := fun s => (F f vs s.obs).toM s
theorem callR_eq : callR F f vs ⟨e, ob⟩ = (F f vs ob).toM ⟨e, ob⟩ := rfl
def k_e_call1 (F : FT) (f : Nat) (vs : List PV) : M RV := fun s => callR F f vs s
theorem k_e_call1_eq {F : FT} {f : Nat} {vs : List PV} : k_e_call1 F f vs s = callR F f vs s := rfl
theorem e_call {f : Nat} {as : E} : dE F (.call f as) s = (dA F as s).bind (k_e_call1 F f) := rfl
def callbR (F : FT) (f i : Nat) (vs : List PV) : M RV := fun s => (F f vs s.obs).toMb i s
theorem callbR_eq : callbR F f i vs ⟨e, ob⟩ = (F f vs ob).toMb i ⟨e, ob⟩ := rfl
def k_e_callb3 (F : FT) (f : Nat) (i : Nat) (vs : List PV) (c : PV) : M RV := fun s => callbR F f i (c :: vs) s
theorem k_e_callb3_eq {F : FT} {f : Nat} {i : Nat} {vs : List PV} {c : PV} : k_e_callb3 F f i vs c s = callbR F f i (c :: vs) s := rfl
def k_e_callb2 (i : Nat) (F : FT) (f : Nat) (vs : List PV) : M RV := fun s => (ownAt i s).bind (k_e_callb3 F f i vs)
theorem k_e_callb2_eq {i : Nat} {F : FT} {f : Nat} {vs : List PV} : k_e_callb2 i F f vs s = (ownAt i s).bind (k_e_callb3 F f i vs) := rfl
def k_e_callb1 (F : FT) (as : E) (i : Nat) (f : Nat) (c : PV) : M RV := fun s => (dA F as s).bind (k_e_callb2 i F f)
theorem k_e_callb1_eq {F : FT} {as : E} {i : Nat} {f : Nat} {c : PV} : k_e_callb1 F as i f c s = (dA F as s).bind (k_e_callb2 i F f) := rfl
theorem e_callb {f : Nat} {i : Nat} {as : E} : dE F (.callb f i as) s = (ownAt i s).bind (k_e_callb1 F as i f) := rfl
def callkR (F : FT) (f : Nat) (vs : List PV) : M RV := fun s => (F f vs s.obs).keep.toM s
theorem callkR_eq : callkR F f vs ⟨e, ob⟩ = (F f vs ob).keep.toM ⟨e, ob⟩ := rfl
def k_e_callk2 (F : FT) (f : Nat) (d : Nat) (vs : List PV) (ws : List PV) : M RV := fun s => callkR F f (.clo d ws :: vs) s
theorem k_e_callk2_eq {F : FT} {f : Nat} {d : Nat} {vs : List PV} {ws : List PV} : k_e_callk2 F f d vs ws s = callkR F f (.clo d ws :: vs) s := rfl
def k_e_callk1 (is : List Nat) (F : FT) (f : Nat) (d : Nat) (vs : List PV) : M RV := fun s => (frzs is s).bind (k_e_callk2 F f d vs)
theorem k_e_callk1_eq {is : List Nat} {F : FT} {f : Nat} {d : Nat} {vs : List PV} : k_e_callk1 is F f d vs s = (frzs is s).bind (k_e_callk2 F f d vs) := rfl
theorem e_callk {f : Nat} {d : Nat} {is : List Nat} {as : E} : dE F (.callk f d is as) s = (dA F as s).bind (k_e_callk1 is F f d) := rfl
def callvR (F : FT) (v : PV) (vs : List PV) : M RV := fun s => callV F v vs s.obs s
theorem callvR_fn : callvR F (.fn f) vs ⟨e, ob⟩ = (F f vs ob).toM ⟨e, ob⟩ := rfl
theorem callvR_clo (h : PV.datas vs = true) : callvR F (.clo d ws) vs ⟨e, ob⟩ = (F d (vs ++ ws) ob).toM ⟨e, ob⟩ := by simp only [callvR, callV, h, if_true]
def callvA (F : FT) (v : PV) (as : E) : M RV := fun s => (dA F as s).bind (callvR F v)
theorem callvA_eq {as : E} : callvA F v as s = (dA F as s).bind (callvR F v) := rfl
def k_e_callv1 (fs : List Nat) (ls : List Nat) (F : FT) (as : E) (v : PV) : M RV := fun s => ifR (okV fs ls v) (callvA F v as) badM s
theorem k_e_callv1_eq {fs : List Nat} {ls : List Nat} {F : FT} {as : E} {v : PV} : k_e_callv1 fs ls F as v s = ifR (okV fs ls v) (callvA F v as) badM s := rfl
theorem e_callv {i : Nat} {fs : List Nat} {ls : List Nat} {as : E} : dE F (.callv i fs ls as) s = (frAt i s).bind (k_e_callv1 fs ls F as) := by show (frAt i s).bind _ = _; congr 1; funext v s; show (if okV fs ls v = true then _ else _ : M RV) s = _; simp only [k_e_callv1, ifR]; split <;> rfl
def k_e_bi1 (b : Bi) (vs : List PV) : M RV := fun s => M.ofO (opBi b vs) s
theorem k_e_bi1_eq {b : Bi} {vs : List PV} : k_e_bi1 b vs s = M.ofO (opBi b vs) s := rfl
theorem e_bi {b : Bi} {as : E} : dE F (.bi b as) s = (dD F as s).bind (k_e_bi1 b) := rfl
def k_e_callx2 (F : FT) (f : Nat) (v : PV) : M RV := fun s => callkR F f [v] s
theorem k_e_callx2_eq {F : FT} {f : Nat} {v : PV} : k_e_callx2 F f v s = callkR F f [v] s := rfl
def k_e_callx1 (F : FT) (f : Nat) (v : PV) : M RV := fun s => (asExn v s).bind (k_e_callx2 F f)
theorem k_e_callx1_eq {F : FT} {f : Nat} {v : PV} : k_e_callx1 F f v s = (asExn v s).bind (k_e_callx2 F f) := rfl
theorem e_callx {f : Nat} {i : Nat} : dE F (.callx f i) s = (frAt i s).bind (k_e_callx1 F f) := rfl
def k_e_tx5 (k : Tx) (z : Str) (y : PV) : M RV := fun s => M.ofO (opTx k z y) s
theorem k_e_tx5_eq {k : Tx} {z : Str} {y : PV} : k_e_tx5 k z y s = M.ofO (opTx k z y) s := rfl
def k_e_tx4 (k : Tx) (z : Str) (y : RV) : M RV := fun s => (deref y s).bind (k_e_tx5 k z)
theorem k_e_tx4_eq {k : Tx} {z : Str} {y : RV} : k_e_tx4 k z y s = (deref y s).bind (k_e_tx5 k z) := rfl
def k_e_tx3 (F : FT) (b : E) (k : Tx) (z : Str) : M RV := fun s => (dE F b s).bind (k_e_tx4 k z)
theorem k_e_tx3_eq {F : FT} {b : E} {k : Tx} {z : Str} : k_e_tx3 F b k z s = (dE F b s).bind (k_e_tx4 k z) := rfl
def k_e_tx2 (F : FT) (b : E) (k : Tx) (x : PV) : M RV := fun s => (asStr x s).bind (k_e_tx3 F b k)
theorem k_e_tx2_eq {F : FT} {b : E} {k : Tx} {x : PV} : k_e_tx2 F b k x s = (asStr x s).bind (k_e_tx3 F b k) := rfl
def k_e_tx1 (F : FT) (b : E) (k : Tx) (x : RV) : M RV := fun s => (deref x s).bind (k_e_tx2 F b k)
theorem k_e_tx1_eq {F : FT} {b : E} {k : Tx} {x : RV} : k_e_tx1 F b k x s = (deref x s).bind (k_e_tx2 F b k) := rfl
theorem e_tx {k : Tx} {a : E} {b : E} : dE F (.tx k a b) s = (dE F a s).bind (k_e_tx1 F b k) := rfl
def k_e_ix4 (x : PV) (y : PV) : M RV := fun s => M.ofO (ixR x y) s
theorem k_e_ix4_eq {x : PV} {y : PV} : k_e_ix4 x y s = M.ofO (ixR x y) s := rfl
def k_e_ix3 (y : RV) (x : PV) : M RV := fun s => (deref y s).bind (k_e_ix4 x)
theorem k_e_ix3_eq {y : RV} {x : PV} : k_e_ix3 y x s = (deref y s).bind (k_e_ix4 x) := rfl
def k_e_ix2 (x : RV) (y : RV) : M RV := fun s => (deref x s).bind (k_e_ix3 y)
theorem k_e_ix2_eq {x : RV} {y : RV} : k_e_ix2 x y s = (deref x s).bind (k_e_ix3 y) := rfl
def k_e_ix1 (F : FT) (b : E) (x : RV) : M RV := fun s => (dE F b s).bind (k_e_ix2 x)
theorem k_e_ix1_eq {F : FT} {b : E} {x : RV} : k_e_ix1 F b x s = (dE F b s).bind (k_e_ix2 x) := rfl
theorem e_ix {a : E} {b : E} : dE F (.ix a b) s = (dE F a s).bind (k_e_ix1 F b) := rfl
def k_e_sl4 (l : Option Int) (h : Option Int) (x : PV) : M RV := fun s => M.ofO (opSl x l h) s
theorem k_e_sl4_eq {l : Option Int} {h : Option Int} {x : PV} : k_e_sl4 l h x s = M.ofO (opSl x l h) s := rfl
def k_e_sl3 (x : RV) (l : Option Int) (h : Option Int) : M RV := fun s => (deref x s).bind (k_e_sl4 l h)
theorem k_e_sl3_eq {x : RV} {l : Option Int} {h : Option Int} : k_e_sl3 x l h s = (deref x s).bind (k_e_sl4 l h) := rfl
def k_e_sl2 (hi : E) (F : FT) (x : RV) (l : Option Int) : M RV := fun s => (partO hi (dE F hi) s).bind (k_e_sl3 x l)
theorem k_e_sl2_eq {hi : E} {F : FT} {x : RV} {l : Option Int} : k_e_sl2 hi F x l s = (partO hi (dE F hi) s).bind (k_e_sl3 x l) := rfl
def k_e_sl1 (lo : E) (F : FT) (hi : E) (x : RV) : M RV := fun s => (partO lo (dE F lo) s).bind (k_e_sl2 hi F x)
theorem k_e_sl1_eq {lo : E} {F : FT} {hi : E} {x : RV} : k_e_sl1 lo F hi x s = (partO lo (dE F lo) s).bind (k_e_sl2 hi F x) := rfl
theorem e_sl {a : E} {lo : E} {hi : E} : dE F (.sl a lo hi) s = (dE F a s).bind (k_e_sl1 lo F hi) := rfl
def k_e_fmt2 (x : PV) : M RV := fun s => M.ofO (opFmt x) s
theorem k_e_fmt2_eq {x : PV} : k_e_fmt2 x s = M.ofO (opFmt x) s := rfl
def k_e_fmt1 (x : RV) : M RV := fun s => (deref x s).bind k_e_fmt2
theorem k_e_fmt1_eq {x : RV} : k_e_fmt1 x s = (deref x s).bind k_e_fmt2 := rfl
theorem e_fmt {a : E} : dE F (.fmt a) s = (dE F a s).bind k_e_fmt1 := rfl
def k_e_revt2 (x : PV) : M RV := fun s => M.ofO (opRevT x) s
theorem k_e_revt2_eq {x : PV} : k_e_revt2 x s = M.ofO (opRevT x) s := rfl
def k_e_revt1 (x : RV) : M RV := fun s => (deref x s).bind k_e_revt2
theorem k_e_revt1_eq {x : RV} : k_e_revt1 x s = (deref x s).bind k_e_revt2 := rfl
theorem e_revt {a : E} : dE F (.revt a) s = (dE F a s).bind k_e_revt1 := rfl
def k_e_js1 (z : Str) : M RV := fun s => .ok (.fr (.str z)) s
theorem k_e_js1_eq {z : Str} : k_e_js1 z s = .ok (.fr (.str z)) s := rfl
theorem e_js {as : E} : dE F (.js as) s = (dJ F as Str.empty s).bind k_e_js1 := rfl
theorem dj_nil' {acc : Str} : dJ F .nil acc s = .ok acc s := rfl
def k_dj_cons'3 (acc : Str) (F : FT) (as : E) (y : Str) : M Str := fun s => ifR (lenOk (acc ++ y).length) (dJ F as (acc ++ y)) badM s
theorem k_dj_cons'3_eq {acc : Str} {F : FT} {as : E} {y : Str} : k_dj_cons'3 acc F as y s = ifR (lenOk (acc ++ y).length) (dJ F as (acc ++ y)) badM s := rfl
def k_dj_cons'2 (acc : Str) (F : FT) (as : E) (x : PV) : M Str := fun s => (asStr x s).bind (k_dj_cons'3 acc F as)
theorem k_dj_cons'2_eq {acc : Str} {F : FT} {as : E} {x : PV} : k_dj_cons'2 acc F as x s = (asStr x s).bind (k_dj_cons'3 acc F as) := rfl
def k_dj_cons'1 (acc : Str) (F : FT) (as : E) (x : RV) : M Str := fun s => (deref x s).bind (k_dj_cons'2 acc F as)
theorem k_dj_cons'1_eq {acc : Str} {F : FT} {as : E} {x : RV} : k_dj_cons'1 acc F as x s = (deref x s).bind (k_dj_cons'2 acc F as) := rfl
theorem dj_cons' {a : E} {as : E} {acc : Str} : dJ F (.cons a as) acc s = (dE F a s).bind (k_dj_cons'1 acc F as) := by show (dE F a s).bind _ = _; congr 1; funext x s; show (deref x s).bind _ = (deref x s).bind _; congr 1; funext x s; show (asStr x s).bind _ = (asStr x s).bind _; congr 1; funext y s; show (if lenOk (acc ++ y).length = true then _ else _ : M Str) s = _; simp only [k_dj_cons'3, ifR]; split <;> rfl
def k_e_rev2 (x : PV) : M RV := fun s => M.ofO (opRev x) s
theorem k_e_rev2_eq {x : PV} : k_e_rev2 x s = M.ofO (opRev x) s := rfl
def k_e_rev1 (x : RV) : M RV := fun s => (deref x s).bind k_e_rev2
theorem k_e_rev1_eq {x : RV} : k_e_rev1 x s = (deref x s).bind k_e_rev2 := rfl
theorem e_rev {a : E} : dE F (.rev a) s = (dE F a s).bind k_e_rev1 := rfl
def eltM (F : FT) (e : E) : M PV := fun s => (dE F e s).bind frz
theorem eltM_eq {e : E} : eltM F e s = (dE F e s).bind frz := rfl
def okL (ys : List PV) : M RV := fun s => .ok (.own (.lst ys)) s
theorem okL_eq : okL ys s = .ok (.own (.lst ys)) s := rfl
def compR (F : FT) (elt : E) (tg : Tg) (cond : E) (own : List Nat) (vs : List PV) : M (List PV) := fun s => noX (compGo own (setTg tg) (condB cond (dE F cond)) (eltM F elt) vs []) s
def k_e_comp2 (ys : List PV) : M RV := fun s => .ok (.own (.lst ys)) s
theorem k_e_comp2_eq {ys : List PV} : k_e_comp2 ys s = .ok (.own (.lst ys)) s := rfl
def k_e_comp1 (F : FT) (elt : E) (tg : Tg) (cond : E) (own : List Nat) (vs : List PV) : M RV := fun s => (compR F elt tg cond own vs s).bind k_e_comp2
theorem k_e_comp1_eq {F : FT} {elt : E} {tg : Tg} {cond : E} {own : List Nat} {vs : List PV} : k_e_comp1 F elt tg cond own vs s = (compR F elt tg cond own vs s).bind k_e_comp2 := rfl
theorem e_comp {elt : E} {tg : Tg} {it : E} {cond : E} {own : List Nat} : dE F (.comp elt tg it cond own) s = (dI F it s).bind (k_e_comp1 F elt tg cond own) := rfl
theorem e_pop0 {i : Nat} : dE F (.pop0 i) s = pop0S i (slotAt i s) s := rfl
theorem a_nil' : dA F .nil s = .ok [] s := rfl
def k_a_cons'3 (x : PV) (xs : List PV) : M (List PV) := fun s => .ok (x :: xs) s
theorem k_a_cons'3_eq {x : PV} {xs : List PV} : k_a_cons'3 x xs s = .ok (x :: xs) s := rfl
def k_a_cons'2 (F : FT) (as : E) (x : PV) : M (List PV) := fun s => (dA F as s).bind (k_a_cons'3 x)
theorem k_a_cons'2_eq {F : FT} {as : E} {x : PV} : k_a_cons'2 F as x s = (dA F as s).bind (k_a_cons'3 x) := rfl
def k_a_cons'1 (F : FT) (as : E) (x : RV) : M (List PV) := fun s => (frz x s).bind (k_a_cons'2 F as)
theorem k_a_cons'1_eq {F : FT} {as : E} {x : RV} : k_a_cons'1 F as x s = (frz x s).bind (k_a_cons'2 F as) := rfl
theorem a_cons' {a : E} {as : E} : dA F (.cons a as) s = (dE F a s).bind (k_a_cons'1 F as) := rfl
theorem d_nil' : dD F .nil s = .ok [] s := rfl
def k_d_cons'3 (xs : List PV) (x : PV) : M (List PV) := fun s => .ok (x :: xs) s
theorem k_d_cons'3_eq {xs : List PV} {x : PV} : k_d_cons'3 xs x s = .ok (x :: xs) s := rfl
def k_d_cons'2 (x : RV) (xs : List PV) : M (List PV) := fun s => (deref x s).bind (k_d_cons'3 xs)
theorem k_d_cons'2_eq {x : RV} {xs : List PV} : k_d_cons'2 x xs s = (deref x s).bind (k_d_cons'3 xs) := rfl
def k_d_cons'1 (F : FT) (as : E) (x : RV) : M (List PV) := fun s => (dD F as s).bind (k_d_cons'2 x)
theorem k_d_cons'1_eq {F : FT} {as : E} {x : RV} : k_d_cons'1 F as x s = (dD F as s).bind (k_d_cons'2 x) := rfl
theorem d_cons' {a : E} {as : E} : dD F (.cons a as) s = (dE F a s).bind (k_d_cons'1 F as) := rfl
theorem v_nil' : dV F .nil s = .ok [] s := rfl
def k_v_cons'3 (x : RV) (xs : List RV) : M (List RV) := fun s => .ok (x :: xs) s
theorem k_v_cons'3_eq {x : RV} {xs : List RV} : k_v_cons'3 x xs s = .ok (x :: xs) s := rfl
def k_v_cons'2 (F : FT) (as : E) (x : RV) : M (List RV) := fun s => (dV F as s).bind (k_v_cons'3 x)
theorem k_v_cons'2_eq {F : FT} {as : E} {x : RV} : k_v_cons'2 F as x s = (dV F as s).bind (k_v_cons'3 x) := rfl
def k_v_cons'1 (F : FT) (as : E) (x : RV) : M (List RV) := fun s => (noSl x s).bind (k_v_cons'2 F as)
theorem k_v_cons'1_eq {F : FT} {as : E} {x : RV} : k_v_cons'1 F as x s = (noSl x s).bind (k_v_cons'2 F as) := rfl
theorem v_cons' {a : E} {as : E} : dV F (.cons a as) s = (dE F a s).bind (k_v_cons'1 F as) := rfl
def k_i_zip'4 (x : PV) (y : PV) : M (List PV) := fun s => zipM x y s
theorem k_i_zip'4_eq {x : PV} {y : PV} : k_i_zip'4 x y s = zipM x y s := rfl
def k_i_zip'3 (x : PV) (y : RV) : M (List PV) := fun s => (frz y s).bind (k_i_zip'4 x)
theorem k_i_zip'3_eq {x : PV} {y : RV} : k_i_zip'3 x y s = (frz y s).bind (k_i_zip'4 x) := rfl
def k_i_zip'2 (F : FT) (b : E) (x : PV) : M (List PV) := fun s => (dE F b s).bind (k_i_zip'3 x)
theorem k_i_zip'2_eq {F : FT} {b : E} {x : PV} : k_i_zip'2 F b x s = (dE F b s).bind (k_i_zip'3 x) := rfl
def k_i_zip'1 (F : FT) (b : E) (x : RV) : M (List PV) := fun s => (frz x s).bind (k_i_zip'2 F b)
theorem k_i_zip'1_eq {F : FT} {b : E} {x : RV} : k_i_zip'1 F b x s = (frz x s).bind (k_i_zip'2 F b) := rfl
theorem i_zip' {a : E} {b : E} : dI F (.zip a b) s = (dE F a s).bind (k_i_zip'1 F b) := rfl
def k_i_zipL'4 (x : PV) (y : PV) : M (List PV) := fun s => zipLM x y s
theorem k_i_zipL'4_eq {x : PV} {y : PV} : k_i_zipL'4 x y s = zipLM x y s := rfl
def k_i_zipL'3 (x : PV) (y : RV) : M (List PV) := fun s => (frz y s).bind (k_i_zipL'4 x)
theorem k_i_zipL'3_eq {x : PV} {y : RV} : k_i_zipL'3 x y s = (frz y s).bind (k_i_zipL'4 x) := rfl
def k_i_zipL'2 (F : FT) (b : E) (x : PV) : M (List PV) := fun s => (dE F b s).bind (k_i_zipL'3 x)
theorem k_i_zipL'2_eq {F : FT} {b : E} {x : PV} : k_i_zipL'2 F b x s = (dE F b s).bind (k_i_zipL'3 x) := rfl
def k_i_zipL'1 (F : FT) (b : E) (x : RV) : M (List PV) := fun s => (frz x s).bind (k_i_zipL'2 F b)
theorem k_i_zipL'1_eq {F : FT} {b : E} {x : RV} : k_i_zipL'1 F b x s = (frz x s).bind (k_i_zipL'2 F b) := rfl
theorem i_zipL' {a : E} {b : E} : dI F (.zipL a b) s = (dE F a s).bind (k_i_zipL'1 F b) := rfl
def k_i_rng1'2 (i : Int) : M (List PV) := fun s => ifR (small62 i && lenOk (rngP 0 i).length) (okM (rngP 0 i)) badM s
theorem k_i_rng1'2_eq {i : Int} : k_i_rng1'2 i s = ifR (small62 i && lenOk (rngP 0 i).length) (okM (rngP 0 i)) badM s := rfl
def k_i_rng1'1 (x : RV) : M (List PV) := fun s => (rvI x s).bind k_i_rng1'2
theorem k_i_rng1'1_eq {x : RV} : k_i_rng1'1 x s = (rvI x s).bind k_i_rng1'2 := rfl
theorem i_rng1' {a : E} : dI F (.rng1 a) s = (dE F a s).bind k_i_rng1'1 := by show (dE F a s).bind _ = _; congr 1; funext x s; show (rvI x s).bind _ = (rvI x s).bind _; congr 1; funext i s; show (if (small62 i && lenOk (rngP 0 i).length) = true then _ else _ : M (List PV)) s = _; simp only [k_i_rng1'2, ifR]; split <;> rfl
def k_i_rng2'4 (i : Int) (j : Int) : M (List PV) := fun s => ifR ((small62 i && small62 j) && lenOk (rngP i j).length) (okM (rngP i j)) badM s
theorem k_i_rng2'4_eq {i : Int} {j : Int} : k_i_rng2'4 i j s = ifR ((small62 i && small62 j) && lenOk (rngP i j).length) (okM (rngP i j)) badM s := rfl
def k_i_rng2'3 (y : RV) (i : Int) : M (List PV) := fun s => (rvI y s).bind (k_i_rng2'4 i)
theorem k_i_rng2'3_eq {y : RV} {i : Int} : k_i_rng2'3 y i s = (rvI y s).bind (k_i_rng2'4 i) := rfl
def k_i_rng2'2 (x : RV) (y : RV) : M (List PV) := fun s => (rvI x s).bind (k_i_rng2'3 y)
theorem k_i_rng2'2_eq {x : RV} {y : RV} : k_i_rng2'2 x y s = (rvI x s).bind (k_i_rng2'3 y) := rfl
def k_i_rng2'1 (F : FT) (b : E) (x : RV) : M (List PV) := fun s => (dE F b s).bind (k_i_rng2'2 x)
theorem k_i_rng2'1_eq {F : FT} {b : E} {x : RV} : k_i_rng2'1 F b x s = (dE F b s).bind (k_i_rng2'2 x) := rfl
theorem i_rng2' {a : E} {b : E} : dI F (.rng2 a b) s = (dE F a s).bind (k_i_rng2'1 F b) := by show (dE F a s).bind _ = _; congr 1; funext x s; show (dE F b s).bind _ = (dE F b s).bind _; congr 1; funext y s; show (rvI x s).bind _ = (rvI x s).bind _; congr 1; funext i s; show (rvI y s).bind _ = (rvI y s).bind _; congr 1; funext j s; show (if ((small62 i && small62 j) && lenOk (rngP i j).length) = true then _ else _ : M (List PV)) s = _; simp only [k_i_rng2'4, ifR]; split <;> rfl
def k_i_enm'2 (x : PV) : M (List PV) := fun s => enmM x s
theorem k_i_enm'2_eq {x : PV} : k_i_enm'2 x s = enmM x s := rfl
def k_i_enm'1 (x : RV) : M (List PV) := fun s => (frz x s).bind k_i_enm'2
theorem k_i_enm'1_eq {x : RV} : k_i_enm'1 x s = (frz x s).bind k_i_enm'2 := rfl
theorem i_enm' {a : E} : dI F (.enm a) s = (dE F a s).bind k_i_enm'1 := rfl
def k_i_seqI'2 (x : PV) : M (List PV) := fun s => seqOf x s
theorem k_i_seqI'2_eq {x : PV} : k_i_seqI'2 x s = seqOf x s := rfl
def k_i_seqI'1 (x : RV) : M (List PV) := fun s => (frz x s).bind k_i_seqI'2
theorem k_i_seqI'1_eq {x : RV} : k_i_seqI'1 x s = (frz x s).bind k_i_seqI'2 := rfl
theorem i_seqI' {a : E} : dI F (.seqI a) s = (dE F a s).bind k_i_seqI'1 := rfl
theorem seqOf_lst : seqOf (.lst xs) s = .ok xs s := rfl
theorem seqOf_tup : seqOf (.tup xs) s = .ok xs s := rfl
theorem zipM_l : zipM (.lst xs) (.lst ys) s = .ok (zipP xs ys) s := rfl
theorem zipM_t : zipM (.tup xs) (.tup ys) s = .ok (zipP xs ys) s := rfl
theorem zipLM_l : zipLM (.lst xs) (.lst ys) s = .ok (zipP xs ys) s := rfl
theorem enmM_l : enmM (.lst xs) s = .ok (enmP xs) s := rfl
theorem asExn_x : asExn (.exn c) s = .ok (.exn c) s := rfl
theorem asStr_s : asStr (.str c) s = .ok c s := rfl
theorem frzs_nil : frzs [] s = .ok [] s := rfl
def consK (v : PV) (vs : List PV) : M (List PV) := fun s => .ok (v :: vs) s
theorem consK_eq : consK v vs s = .ok (v :: vs) s := rfl
def frzsK (is : List Nat) (v : PV) : M (List PV) := fun s => (frzs is s).bind (consK v)
theorem frzsK_eq : frzsK is v s = (frzs is s).bind (consK v) := rfl
theorem frzs_cons : frzs (i :: is) s = (frAt i s).bind (frzsK is) := rfl
theorem partO_nil {m : M RV} : partO .nil m s = .ok none s := rfl
theorem condB_nil {m : M RV} : condB .nil m s = .ok true s := rfl
def someK (i : Int) : M (Option Int) := fun s => .ok (some i) s
theorem someK_eq : someK i s = .ok (some i) s := rfl
def partK (x : RV) : M (Option Int) := fun s => (rvI x s).bind someK
theorem partK_eq : partK x s = (rvI x s).bind someK := rfl
theorem partO_var : partO (.var i) (dE F (.var i)) s = (dE F (.var i) s).bind partK := rfl
theorem condB_var : condB (.var i) (dE F (.var i)) s = (dE F (.var i) s).bind rvB := rfl
theorem partO_cst : partO (.cst v) (dE F (.cst v)) s = (dE F (.cst v) s).bind partK := rfl
theorem condB_cst : condB (.cst v) (dE F (.cst v)) s = (dE F (.cst v) s).bind rvB := rfl
theorem partO_bin : partO (.bin op a b) (dE F (.bin op a b)) s = (dE F (.bin op a b) s).bind partK := rfl
theorem condB_bin : condB (.bin op a b) (dE F (.bin op a b)) s = (dE F (.bin op a b) s).bind rvB := rfl
theorem partO_neg : partO (.neg a) (dE F (.neg a)) s = (dE F (.neg a) s).bind partK := rfl
theorem condB_neg : condB (.neg a) (dE F (.neg a)) s = (dE F (.neg a) s).bind rvB := rfl
theorem partO_ix : partO (.ix a b) (dE F (.ix a b)) s = (dE F (.ix a b) s).bind partK := rfl
theorem condB_ix : condB (.ix a b) (dE F (.ix a b)) s = (dE F (.ix a b) s).bind rvB := rfl
theorem partO_bi : partO (.bi b as) (dE F (.bi b as)) s = (dE F (.bi b as) s).bind partK := rfl
theorem condB_bi : condB (.bi b as) (dE F (.bi b as)) s = (dE F (.bi b as) s).bind rvB := rfl
theorem partO_call : partO (.call f as) (dE F (.call f as)) s = (dE F (.call f as) s).bind partK := rfl
theorem condB_call : condB (.call f as) (dE F (.call f as)) s = (dE F (.call f as) s).bind rvB := rfl
theorem partO_callb : partO (.callb f i as) (dE F (.callb f i as)) s = (dE F (.callb f i as) s).bind partK := rfl
theorem condB_callb : condB (.callb f i as) (dE F (.callb f i as)) s = (dE F (.callb f i as) s).bind rvB := rfl
theorem partO_cmp : partO (.cmp op a b) (dE F (.cmp op a b)) s = (dE F (.cmp op a b) s).bind partK := rfl
theorem condB_cmp : condB (.cmp op a b) (dE F (.cmp op a b)) s = (dE F (.cmp op a b) s).bind rvB := rfl
theorem partO_nt : partO (.nt a) (dE F (.nt a)) s = (dE F (.nt a) s).bind partK := rfl
theorem condB_nt : condB (.nt a) (dE F (.nt a)) s = (dE F (.nt a) s).bind rvB := rfl
theorem partO_an : partO (.an a b) (dE F (.an a b)) s = (dE F (.an a b) s).bind partK := rfl
theorem condB_an : condB (.an a b) (dE F (.an a b)) s = (dE F (.an a b) s).bind rvB := rfl
theorem partO_orr : partO (.orr a b) (dE F (.orr a b)) s = (dE F (.orr a b) s).bind partK := rfl
theorem condB_orr : condB (.orr a b) (dE F (.orr a b)) s = (dE F (.orr a b) s).bind rvB := rfl
theorem partO_callk : partO (.callk f d is as) (dE F (.callk f d is as)) s = (dE F (.callk f d is as) s).bind partK := rfl
theorem condB_callk : condB (.callk f d is as) (dE F (.callk f d is as)) s = (dE F (.callk f d is as) s).bind rvB := rfl
theorem partO_ite : partO (.ite a b c) (dE F (.ite a b c)) s = (dE F (.ite a b c) s).bind partK := rfl
theorem condB_ite : condB (.ite a b c) (dE F (.ite a b c)) s = (dE F (.ite a b c) s).bind rvB := rfl
theorem partO_chn : partO (.chn o p a b c) (dE F (.chn o p a b c)) s = (dE F (.chn o p a b c) s).bind partK := rfl
theorem condB_chn : condB (.chn o p a b c) (dE F (.chn o p a b c)) s = (dE F (.chn o p a b c) s).bind rvB := rfl
theorem partO_pop0 : partO (.pop0 i) (dE F (.pop0 i)) s = (dE F (.pop0 i) s).bind partK := rfl
theorem condB_pop0 : condB (.pop0 i) (dE F (.pop0 i)) s = (dE F (.pop0 i) s).bind rvB := rfl
theorem settle_fr : settle i (.fr v) s = .ok (.fr v) s := rfl
theorem settle_own : settle i (.own v) s = .ok (.own v) s := rfl
def frK (v : PV) : M RV := fun s => .ok (.fr v) s
theorem frK_eq : frK v s = .ok (.fr v) s := rfl
def stB (t : Bool) (j : Nat) : M RV := fun s => if t = true then .ok (.sl j) s else (frz (.sl j) s).bind frK
theorem stB_t : stB true j s = .ok (.sl j) s := rfl
theorem stB_f : stB false j s = (frz (.sl j) s).bind frK := rfl
theorem settle_sl : settle i (.sl j) s = stB (Nat.beq j i) j s := by
  unfold settle stB
  by_cases h : j = i
  · have : Nat.beq j i = true := by rw [Nat.beq_eq]; exact h
    simp only [h, if_true, this]; rw [h] at this; simp only [this, if_true]; rfl
  · have : Nat.beq j i = false := by cases e : Nat.beq j i; rfl; rw [Nat.beq_eq] at e; exact absurd e h
    simp only [h, if_false, this, Bool.false_eq_true]; rfl
theorem noSl_fr : noSl (.fr v) s = .ok (.fr v) s := rfl
theorem noSl_own : noSl (.own v) s = .ok (.own v) s := rfl
theorem noSl_sl : noSl (.sl j) s = (frz (.sl j) s).bind frK := rfl
theorem setV_fr : Qv.setV i (.fr v) s = .ok () (s.put i (.fr v)) := rfl
theorem setV_own : Qv.setV i (.own v) s = .ok () (s.put i (.own v)) := rfl
theorem setV_sl : Qv.setV i (.sl i) s = .ok () s := by simp [Qv.setV]
theorem setVs_nil : setVs [] [] s = .ok () s := rfl
def setVsK (is : List Nat) (rs : List RV) (_ : Unit) : M Unit := fun s => setVs is rs s
theorem setVsK_eq : setVsK is rs u s = setVs is rs s := rfl
theorem setVs_cons : setVs (i :: is) (r :: rs) s = (Qv.setV i r s).bind (setVsK is rs) := rfl
theorem setTg_nm : setTg (.nm i) v s = .ok () (s.put i (.fr v)) := rfl
theorem setTg_tp : setTg (.tp ts) (.tup xs) s = setTgs ts xs s := rfl
theorem setTgs_nil : setTgs .nil [] s = .ok () s := rfl
def setTgsK (ts : Tg) (xs : List PV) (_ : Unit) : M Unit := fun s => setTgs ts xs s
theorem setTgsK_eq : setTgsK ts xs u s = setTgs ts xs s := rfl
theorem setTgs_cons : setTgs (.cons t ts) (x :: xs) s = (setTg t x s).bind (setTgsK ts xs) := rfl
theorem putM_eq : putM i x s = .ok () (s.put i x) := rfl
theorem raiseM_eq : (raiseM c : M α) s = .exc c s := rfl
def nxK (_ : α) : M Fl := fun s => .ok .nx s
theorem nxK_eq : nxK u s = .ok .nx s := rfl
def putK (i : Nat) (c : PV) : M Fl := fun s => .ok .nx (s.put i (.own c))
theorem putK_eq : putK i c s = .ok .nx (s.put i (.own c)) := rfl
theorem st_skip' : dS F .skip s = .ok .nx s := rfl
def k_st_seq'1 (F : FT) (b : St) (f : Fl) : M Fl := fun s => thenS (dS F b) f s
theorem k_st_seq'1_eq {F : FT} {b : St} {f : Fl} : k_st_seq'1 F b f s = thenS (dS F b) f s := rfl
theorem st_seq' {a : St} {b : St} : dS F (.seq a b) s = (dS F a s).bind (k_st_seq'1 F b) := by show (dS F a s).bind _ = _; congr 1; funext f s; cases f <;> rfl
def k_st_asg'3 (u : Unit) : M Fl := fun s => .ok .nx s
theorem k_st_asg'3_eq {u : Unit} : k_st_asg'3 u s = .ok .nx s := rfl
def k_st_asg'2 (i : Nat) (r : RV) : M Fl := fun s => (Qv.setV i r s).bind k_st_asg'3
theorem k_st_asg'2_eq {i : Nat} {r : RV} : k_st_asg'2 i r s = (Qv.setV i r s).bind k_st_asg'3 := rfl
def k_st_asg'1 (i : Nat) (r : RV) : M Fl := fun s => (settle i r s).bind (k_st_asg'2 i)
theorem k_st_asg'1_eq {i : Nat} {r : RV} : k_st_asg'1 i r s = (settle i r s).bind (k_st_asg'2 i) := rfl
theorem st_asg' {i : Nat} {e : E} : dS F (.asg i e) s = (dE F e s).bind (k_st_asg'1 i) := rfl
def k_st_asgT'3 (u : Unit) : M Fl := fun s => .ok .nx s
theorem k_st_asgT'3_eq {u : Unit} : k_st_asgT'3 u s = .ok .nx s := rfl
def k_st_asgT'2 (t : Tg) (v : PV) : M Fl := fun s => (setTg t v s).bind k_st_asgT'3
theorem k_st_asgT'2_eq {t : Tg} {v : PV} : k_st_asgT'2 t v s = (setTg t v s).bind k_st_asgT'3 := rfl
def k_st_asgT'1 (t : Tg) (r : RV) : M Fl := fun s => (frz r s).bind (k_st_asgT'2 t)
theorem k_st_asgT'1_eq {t : Tg} {r : RV} : k_st_asgT'1 t r s = (frz r s).bind (k_st_asgT'2 t) := rfl
theorem st_asgT' {t : Tg} {e : E} : dS F (.asgT t e) s = (dE F e s).bind (k_st_asgT'1 t) := rfl
def k_st_asgP'2 (u : Unit) : M Fl := fun s => .ok .nx s
theorem k_st_asgP'2_eq {u : Unit} : k_st_asgP'2 u s = .ok .nx s := rfl
def k_st_asgP'1 (is : List Nat) (rs : List RV) : M Fl := fun s => (setVs is rs s).bind k_st_asgP'2
theorem k_st_asgP'1_eq {is : List Nat} {rs : List RV} : k_st_asgP'1 is rs s = (setVs is rs s).bind k_st_asgP'2 := rfl
theorem st_asgP' {is : List Nat} {as : E} : dS F (.asgP is as) s = (dV F as s).bind (k_st_asgP'1 is) := rfl
def k_st_ixs'7 (i : Nat) (c : PV) : M Fl := fun s => .ok .nx (s.put i (.own c))
theorem k_st_ixs'7_eq {i : Nat} {c : PV} : k_st_ixs'7 i c s = .ok .nx (s.put i (.own c)) := rfl
def k_st_ixs'6 (k : PV) (v : PV) (i : Nat) (c : PV) : M Fl := fun s => (M.ofO (setIx c k v) s).bind (k_st_ixs'7 i)
theorem k_st_ixs'6_eq {k : PV} {v : PV} {i : Nat} {c : PV} : k_st_ixs'6 k v i c s = (M.ofO (setIx c k v) s).bind (k_st_ixs'7 i) := rfl
def k_st_ixs'5 (i : Nat) (v : PV) (k : PV) : M Fl := fun s => (ownAt i s).bind (k_st_ixs'6 k v i)
theorem k_st_ixs'5_eq {i : Nat} {v : PV} {k : PV} : k_st_ixs'5 i v k s = (ownAt i s).bind (k_st_ixs'6 k v i) := rfl
def k_st_ixs'4 (i : Nat) (v : PV) (r : RV) : M Fl := fun s => (frz r s).bind (k_st_ixs'5 i v)
theorem k_st_ixs'4_eq {i : Nat} {v : PV} {r : RV} : k_st_ixs'4 i v r s = (frz r s).bind (k_st_ixs'5 i v) := rfl
def k_st_ixs'3 (F : FT) (k : E) (i : Nat) (v : PV) (c : PV) : M Fl := fun s => (dE F k s).bind (k_st_ixs'4 i v)
theorem k_st_ixs'3_eq {F : FT} {k : E} {i : Nat} {v : PV} {c : PV} : k_st_ixs'3 F k i v c s = (dE F k s).bind (k_st_ixs'4 i v) := rfl
def k_st_ixs'2 (i : Nat) (F : FT) (k : E) (v : PV) : M Fl := fun s => (ownAt i s).bind (k_st_ixs'3 F k i v)
theorem k_st_ixs'2_eq {i : Nat} {F : FT} {k : E} {v : PV} : k_st_ixs'2 i F k v s = (ownAt i s).bind (k_st_ixs'3 F k i v) := rfl
def k_st_ixs'1 (i : Nat) (F : FT) (k : E) (r : RV) : M Fl := fun s => (frz r s).bind (k_st_ixs'2 i F k)
theorem k_st_ixs'1_eq {i : Nat} {F : FT} {k : E} {r : RV} : k_st_ixs'1 i F k r s = (frz r s).bind (k_st_ixs'2 i F k) := rfl
theorem st_ixs' {i : Nat} {k : E} {v : E} : dS F (.ixs i k v) s = (dE F v s).bind (k_st_ixs'1 i F k) := rfl
def k_st_app'5 (i : Nat) (c : PV) : M Fl := fun s => .ok .nx (s.put i (.own c))
theorem k_st_app'5_eq {i : Nat} {c : PV} : k_st_app'5 i c s = .ok .nx (s.put i (.own c)) := rfl
def k_st_app'4 (v : PV) (i : Nat) (c : PV) : M Fl := fun s => (M.ofO (appV c v) s).bind (k_st_app'5 i)
theorem k_st_app'4_eq {v : PV} {i : Nat} {c : PV} : k_st_app'4 v i c s = (M.ofO (appV c v) s).bind (k_st_app'5 i) := rfl
def k_st_app'3 (i : Nat) (v : PV) : M Fl := fun s => (ownAt i s).bind (k_st_app'4 v i)
theorem k_st_app'3_eq {i : Nat} {v : PV} : k_st_app'3 i v s = (ownAt i s).bind (k_st_app'4 v i) := rfl
def k_st_app'2 (i : Nat) (r : RV) : M Fl := fun s => (frz r s).bind (k_st_app'3 i)
theorem k_st_app'2_eq {i : Nat} {r : RV} : k_st_app'2 i r s = (frz r s).bind (k_st_app'3 i) := rfl
def k_st_app'1 (F : FT) (e : E) (i : Nat) (c : PV) : M Fl := fun s => (dE F e s).bind (k_st_app'2 i)
theorem k_st_app'1_eq {F : FT} {e : E} {i : Nat} {c : PV} : k_st_app'1 F e i c s = (dE F e s).bind (k_st_app'2 i) := rfl
theorem st_app' {i : Nat} {e : E} : dS F (.app i e) s = (ownAt i s).bind (k_st_app'1 F e i) := rfl
def k_st_exp'1 (r : RV) : M Fl := fun s => .ok .nx s
theorem k_st_exp'1_eq {r : RV} : k_st_exp'1 r s = .ok .nx s := rfl
theorem st_exp' {e : E} : dS F (.exp e) s = (dE F e s).bind k_st_exp'1 := rfl
def k_st_ret'1 (r : RV) : M Fl := fun s => .ok (.ret r) s
theorem k_st_ret'1_eq {r : RV} : k_st_ret'1 r s = .ok (.ret r) s := rfl
theorem st_ret' {e : E} : dS F (.ret e) s = (dE F e s).bind k_st_ret'1 := rfl
def k_st_ifs'1 (F : FT) (a : St) (b : St) (x : Bool) : M Fl := fun s => ifR x (dS F a) (dS F b) s
theorem k_st_ifs'1_eq {F : FT} {a : St} {b : St} {x : Bool} : k_st_ifs'1 F a b x s = ifR x (dS F a) (dS F b) s := rfl
theorem st_ifs' {c : E} {a : St} {b : St} : dS F (.ifs c a b) s = (condE F c s).bind (k_st_ifs'1 F a b) := by show (condE F c s).bind _ = _; congr 1; funext x s; cases x <;> rfl
def whlR (F : FT) (c : E) (b : St) : M Fl := fun s => whlGo (condE F c) (dS F b) 1000 s
theorem st_whl' {c : E} {b : St} : dS F (.whl c b) s = whlR F c b s := rfl
def forR (F : FT) (t : Tg) (b : St) (vs : List PV) : M Fl := fun s => forGo (setTg t) (dS F b) vs s
def k_st_fr'1 (F : FT) (t : Tg) (b : St) (vs : List PV) : M Fl := fun s => forR F t b vs s
theorem k_st_fr'1_eq {F : FT} {t : Tg} {b : St} {vs : List PV} : k_st_fr'1 F t b vs s = forR F t b vs s := rfl
theorem st_fr' {t : Tg} {it : E} {b : St} : dS F (.fr t it b) s = (dI F it s).bind (k_st_fr'1 F t b) := rfl
theorem st_rais' {c : Nat} : dS F (.rais c) s = .exc c s := rfl
theorem st_tryx' {n : Nat} {b : St} {i : Nat} {h : E} : dS F (.tryx n b i h) s = tryM n i (dS F b) (dE F h) s := rfl
def k_ixM_eq5 (i : Nat) (c : PV) : M Unit := fun s => .ok () (s.put i (.own c))
theorem k_ixM_eq5_eq {i : Nat} {c : PV} : k_ixM_eq5 i c s = .ok () (s.put i (.own c)) := rfl
def k_ixM_eq4 (k : PV) (v : PV) (i : Nat) (c : PV) : M Unit := fun s => (M.ofO (setIx c k v) s).bind (k_ixM_eq5 i)
theorem k_ixM_eq4_eq {k : PV} {v : PV} {i : Nat} {c : PV} : k_ixM_eq4 k v i c s = (M.ofO (setIx c k v) s).bind (k_ixM_eq5 i) := rfl
def k_ixM_eq3 (i : Nat) (v : PV) (k : PV) : M Unit := fun s => (ownAt i s).bind (k_ixM_eq4 k v i)
theorem k_ixM_eq3_eq {i : Nat} {v : PV} {k : PV} : k_ixM_eq3 i v k s = (ownAt i s).bind (k_ixM_eq4 k v i) := rfl
def k_ixM_eq2 (i : Nat) (v : PV) (r : RV) : M Unit := fun s => (frz r s).bind (k_ixM_eq3 i v)
theorem k_ixM_eq2_eq {i : Nat} {v : PV} {r : RV} : k_ixM_eq2 i v r s = (frz r s).bind (k_ixM_eq3 i v) := rfl
def k_ixM_eq1 (F : FT) (e : E) (i : Nat) (v : PV) (c : PV) : M Unit := fun s => (dE F e s).bind (k_ixM_eq2 i v)
theorem k_ixM_eq1_eq {F : FT} {e : E} {i : Nat} {v : PV} {c : PV} : k_ixM_eq1 F e i v c s = (dE F e s).bind (k_ixM_eq2 i v) := rfl
theorem ixM_eq {i : Nat} {e : E} {v : PV} : ixM i (dE F e) v s = (ownAt i s).bind (k_ixM_eq1 F e i v) := rfl
def ix2K (j : Nat) (h : M RV) (u : PV) (_ : Unit) : M Fl := fun s => (ixM j h u s).bind nxK
theorem ix2K_eq {h : M RV} : ix2K j h u x s = (ixM j h u s).bind nxK := rfl
def ix2G (i : Nat) (g : M RV) (j : Nat) (h : M RV) (vs : List PV) : M Fl := fun s => match vs with
  | [v, u] => (ixM i g v s).bind (ix2K j h u)
  | _ => .bad
theorem ix2G_2 {g h : M RV} : ix2G i g j h [v, u] s = (ixM i g v s).bind (ix2K j h u) := rfl
theorem st_ix2' {k l as : E} : dS F (.ix2 i k j l as) s = (dA F as s).bind (ix2G i (dE F k) j (dE F l)) := by show (dA F as s).bind _ = _; congr 1; funext vs s; match vs with | [] => rfl | [_] => rfl | [_, _] => rfl | _ :: _ :: _ :: _ => rfl
theorem tryM_ok {b : M Fl} {h : M RV} {f : Fl} {s' : Sta} (e : b s = .ok f s') : tryM n i b h s = .ok f s' := by simp only [tryM, e]
theorem tryM_exc {b : M Fl} {h : M RV} {s' s2 : Sta} {v : PV} (e : b s = .exc c s') (hc : c < n) (e2 : h (s'.put i (.fr (.exn c))) = .ok (.fr v) s2) (hv : v.data = true) :
    tryM n i b h s = .ok (.ret (.fr v)) ⟨s2.env.map (fun _ => .no), s2.obs⟩ := by simp only [tryM, e, if_pos hc, e2, hv, if_true]
theorem toM_fr : (CR.ok v false out obs').toM ⟨e, ob⟩ = .ok (.fr v) ⟨e, obs'⟩ := rfl
theorem toM_own : (CR.ok v true out obs').toM ⟨e, ob⟩ = .ok (.own v) ⟨e, obs'⟩ := rfl
theorem toM_exc : (CR.exc c obs').toM ⟨e, ob⟩ = .exc c ⟨e, obs'⟩ := rfl
theorem toMb_fr : (CR.ok v false out obs').toMb i ⟨e, ob⟩ = .ok (.fr v) (Sta.put ⟨e, obs'⟩ i (.own out)) := rfl
theorem toMb_own : (CR.ok v true out obs').toMb i ⟨e, ob⟩ = .ok (.own v) (Sta.put ⟨e, obs'⟩ i (.own out)) := rfl
theorem keep_ok (h : v.data = true) : (CR.ok v o out obs').keep = .ok v o out obs' := by simp only [CR.keep, h, if_true]
theorem keep_exc : (CR.exc c obs').keep = .exc c obs' := rfl
theorem obs_mk : (Sta.mk e ob).obs = ob := rfl
theorem env_mk : (Sta.mk e ob).env = e := rfl
/-- how a def ends -/
def finB (lent : Bool) (v : PV) (o : Bool) (s : Sta) : CR := match lent with
  | false => .ok v o .non s.obs
  | true => match slotAt 0 s with
    | .own u => .ok v o u s.obs
    | _ => .bad
theorem finB_f : finB false v o ⟨e, ob⟩ = .ok v o .non ob := rfl
theorem finB_t : finB true v o ⟨.own u :: e, ob⟩ = .ok v o u ob := rfl
def endB (lent : Bool) (r : R Fl) : CR := match r with
  | .ok .nx s => finB lent .non false s
  | .ok (.ret (.fr v)) s => finB lent v false s
  | .ok (.ret (.own v)) s => finB lent v true s
  | .ok (.ret (.sl i)) s => if lent && i == 0 then .bad else match slotAt i s with
    | .own v => finB lent v true s
    | .fr v => finB lent v false s
    | _ => .bad
  | .exc c s => if lent then .bad else .exc c s.obs
  | .bad => .bad
theorem endC_eq (d : Def) (r : R Fl) : endC d r = endB d.lent r := by
  unfold endC endB outOf finB
  cases h : d.lent
  · cases r with
    | ok f s => cases f with
      | nx => simp
      | ret v => cases v with
        | fr v => simp
        | own v => simp
        | sl i => simp; cases slotAt i s <;> rfl
    | exc c s => simp
    | bad => rfl
  · cases r with
    | ok f s => cases f with
      | nx => simp; cases slotAt 0 s <;> rfl
      | ret v => cases v with
        | fr v => simp; cases slotAt 0 s <;> rfl
        | own v => simp; cases slotAt 0 s <;> rfl
        | sl i => simp; split; rfl; cases slotAt i s <;> cases slotAt 0 s <;> rfl
    | exc c s => simp
    | bad => rfl
theorem endB_nx : endB l (.ok .nx s) = finB l .non false s := rfl
theorem endB_fr : endB l (.ok (.ret (.fr v)) s) = finB l v false s := rfl
theorem endB_own : endB l (.ok (.ret (.own v)) s) = finB l v true s := rfl
def endS (l : Bool) (x : Slot) (s : Sta) : CR := match x with
    | .own v => finB l v true s
    | .fr v => finB l v false s
    | _ => .bad
theorem endS_own : endS l (.own v) s = finB l v true s := rfl
theorem endS_fr : endS l (.fr v) s = finB l v false s := rfl
theorem endB_slf : endB false (.ok (.ret (.sl i)) s) = endS false (slotAt i s) s := by
  simp only [endB, endS, Bool.false_and]; cases slotAt i s <;> rfl
theorem endB_slt : endB true (.ok (.ret (.sl (i + 1))) s) = endS true (slotAt (i + 1) s) s := by
  have h : ((i + 1 : Nat) == 0) = false := rfl
  simp only [endB, endS, Bool.true_and, h]; cases slotAt (i + 1) s <;> rfl
theorem endB_exc : endB false (.exc c ⟨e, ob⟩) = .exc c ob := rfl
theorem callF_eq {D : Nat → Option Def} {d : Def} (h : D f = some d) (hl : as.length = d.np) (ob : List Ob) : callF D (n + 1) f as ob = endB d.lent (dS (callF D n) d.body ⟨slots0 d as, ob⟩) := by
  simp only [callF, h, hl, if_true, endC_eq]
theorem wipe_nil : Sta.wipe s [] = s := rfl
theorem wipe_cons : Sta.wipe s (i :: is) = Sta.wipe (s.put i .no) is := rfl
theorem sA0 : slotAt 0 ⟨x0 :: r, ob⟩ = x0 := rfl
theorem sP0 : Sta.put ⟨x0 :: r, ob⟩ 0 y = ⟨y :: r, ob⟩ := rfl
theorem sA1 : slotAt 1 ⟨x0 :: x1 :: r, ob⟩ = x1 := rfl
theorem sP1 : Sta.put ⟨x0 :: x1 :: r, ob⟩ 1 y = ⟨x0 :: y :: r, ob⟩ := rfl
theorem sA2 : slotAt 2 ⟨x0 :: x1 :: x2 :: r, ob⟩ = x2 := rfl
theorem sP2 : Sta.put ⟨x0 :: x1 :: x2 :: r, ob⟩ 2 y = ⟨x0 :: x1 :: y :: r, ob⟩ := rfl
theorem sA3 : slotAt 3 ⟨x0 :: x1 :: x2 :: x3 :: r, ob⟩ = x3 := rfl
theorem sP3 : Sta.put ⟨x0 :: x1 :: x2 :: x3 :: r, ob⟩ 3 y = ⟨x0 :: x1 :: x2 :: y :: r, ob⟩ := rfl
theorem sA4 : slotAt 4 ⟨x0 :: x1 :: x2 :: x3 :: x4 :: r, ob⟩ = x4 := rfl
theorem sP4 : Sta.put ⟨x0 :: x1 :: x2 :: x3 :: x4 :: r, ob⟩ 4 y = ⟨x0 :: x1 :: x2 :: x3 :: y :: r, ob⟩ := rfl
theorem sA5 : slotAt 5 ⟨x0 :: x1 :: x2 :: x3 :: x4 :: x5 :: r, ob⟩ = x5 := rfl
theorem sP5 : Sta.put ⟨x0 :: x1 :: x2 :: x3 :: x4 :: x5 :: r, ob⟩ 5 y = ⟨x0 :: x1 :: x2 :: x3 :: x4 :: y :: r, ob⟩ := rfl
theorem sA6 : slotAt 6 ⟨x0 :: x1 :: x2 :: x3 :: x4 :: x5 :: x6 :: r, ob⟩ = x6 := rfl
theorem sP6 : Sta.put ⟨x0 :: x1 :: x2 :: x3 :: x4 :: x5 :: x6 :: r, ob⟩ 6 y = ⟨x0 :: x1 :: x2 :: x3 :: x4 :: x5 :: y :: r, ob⟩ := rfl
theorem sA7 : slotAt 7 ⟨x0 :: x1 :: x2 :: x3 :: x4 :: x5 :: x6 :: x7 :: r, ob⟩ = x7 := rfl
theorem sP7 : Sta.put ⟨x0 :: x1 :: x2 :: x3 :: x4 :: x5 :: x6 :: x7 :: r, ob⟩ 7 y = ⟨x0 :: x1 :: x2 :: x3 :: x4 :: x5 :: x6 :: y :: r, ob⟩ := rfl
theorem sA8 : slotAt 8 ⟨x0 :: x1 :: x2 :: x3 :: x4 :: x5 :: x6 :: x7 :: x8 :: r, ob⟩ = x8 := rfl
theorem sP8 : Sta.put ⟨x0 :: x1 :: x2 :: x3 :: x4 :: x5 :: x6 :: x7 :: x8 :: r, ob⟩ 8 y = ⟨x0 :: x1 :: x2 :: x3 :: x4 :: x5 :: x6 :: x7 :: y :: r, ob⟩ := rfl
theorem sA9 : slotAt 9 ⟨x0 :: x1 :: x2 :: x3 :: x4 :: x5 :: x6 :: x7 :: x8 :: x9 :: r, ob⟩ = x9 := rfl
theorem sP9 : Sta.put ⟨x0 :: x1 :: x2 :: x3 :: x4 :: x5 :: x6 :: x7 :: x8 :: x9 :: r, ob⟩ 9 y = ⟨x0 :: x1 :: x2 :: x3 :: x4 :: x5 :: x6 :: x7 :: x8 :: y :: r, ob⟩ := rfl
theorem sA10 : slotAt 10 ⟨x0 :: x1 :: x2 :: x3 :: x4 :: x5 :: x6 :: x7 :: x8 :: x9 :: x10 :: r, ob⟩ = x10 := rfl
theorem sP10 : Sta.put ⟨x0 :: x1 :: x2 :: x3 :: x4 :: x5 :: x6 :: x7 :: x8 :: x9 :: x10 :: r, ob⟩ 10 y = ⟨x0 :: x1 :: x2 :: x3 :: x4 :: x5 :: x6 :: x7 :: x8 :: x9 :: y :: r, ob⟩ := rfl
theorem sA11 : slotAt 11 ⟨x0 :: x1 :: x2 :: x3 :: x4 :: x5 :: x6 :: x7 :: x8 :: x9 :: x10 :: x11 :: r, ob⟩ = x11 := rfl
theorem sP11 : Sta.put ⟨x0 :: x1 :: x2 :: x3 :: x4 :: x5 :: x6 :: x7 :: x8 :: x9 :: x10 :: x11 :: r, ob⟩ 11 y = ⟨x0 :: x1 :: x2 :: x3 :: x4 :: x5 :: x6 :: x7 :: x8 :: x9 :: x10 :: y :: r, ob⟩ := rfl
theorem sA12 : slotAt 12 ⟨x0 :: x1 :: x2 :: x3 :: x4 :: x5 :: x6 :: x7 :: x8 :: x9 :: x10 :: x11 :: x12 :: r, ob⟩ = x12 := rfl
theorem sP12 : Sta.put ⟨x0 :: x1 :: x2 :: x3 :: x4 :: x5 :: x6 :: x7 :: x8 :: x9 :: x10 :: x11 :: x12 :: r, ob⟩ 12 y = ⟨x0 :: x1 :: x2 :: x3 :: x4 :: x5 :: x6 :: x7 :: x8 :: x9 :: x10 :: x11 :: y :: r, ob⟩ := rfl
theorem sA13 : slotAt 13 ⟨x0 :: x1 :: x2 :: x3 :: x4 :: x5 :: x6 :: x7 :: x8 :: x9 :: x10 :: x11 :: x12 :: x13 :: r, ob⟩ = x13 := rfl
theorem sP13 : Sta.put ⟨x0 :: x1 :: x2 :: x3 :: x4 :: x5 :: x6 :: x7 :: x8 :: x9 :: x10 :: x11 :: x12 :: x13 :: r, ob⟩ 13 y = ⟨x0 :: x1 :: x2 :: x3 :: x4 :: x5 :: x6 :: x7 :: x8 :: x9 :: x10 :: x11 :: x12 :: y :: r, ob⟩ := rfl
theorem sA14 : slotAt 14 ⟨x0 :: x1 :: x2 :: x3 :: x4 :: x5 :: x6 :: x7 :: x8 :: x9 :: x10 :: x11 :: x12 :: x13 :: x14 :: r, ob⟩ = x14 := rfl
theorem sP14 : Sta.put ⟨x0 :: x1 :: x2 :: x3 :: x4 :: x5 :: x6 :: x7 :: x8 :: x9 :: x10 :: x11 :: x12 :: x13 :: x14 :: r, ob⟩ 14 y = ⟨x0 :: x1 :: x2 :: x3 :: x4 :: x5 :: x6 :: x7 :: x8 :: x9 :: x10 :: x11 :: x12 :: x13 :: y :: r, ob⟩ := rfl
theorem sA15 : slotAt 15 ⟨x0 :: x1 :: x2 :: x3 :: x4 :: x5 :: x6 :: x7 :: x8 :: x9 :: x10 :: x11 :: x12 :: x13 :: x14 :: x15 :: r, ob⟩ = x15 := rfl
theorem sP15 : Sta.put ⟨x0 :: x1 :: x2 :: x3 :: x4 :: x5 :: x6 :: x7 :: x8 :: x9 :: x10 :: x11 :: x12 :: x13 :: x14 :: x15 :: r, ob⟩ 15 y = ⟨x0 :: x1 :: x2 :: x3 :: x4 :: x5 :: x6 :: x7 :: x8 :: x9 :: x10 :: x11 :: x12 :: x13 :: x14 :: y :: r, ob⟩ := rfl
theorem sA16 : slotAt 16 ⟨x0 :: x1 :: x2 :: x3 :: x4 :: x5 :: x6 :: x7 :: x8 :: x9 :: x10 :: x11 :: x12 :: x13 :: x14 :: x15 :: x16 :: r, ob⟩ = x16 := rfl
theorem sP16 : Sta.put ⟨x0 :: x1 :: x2 :: x3 :: x4 :: x5 :: x6 :: x7 :: x8 :: x9 :: x10 :: x11 :: x12 :: x13 :: x14 :: x15 :: x16 :: r, ob⟩ 16 y = ⟨x0 :: x1 :: x2 :: x3 :: x4 :: x5 :: x6 :: x7 :: x8 :: x9 :: x10 :: x11 :: x12 :: x13 :: x14 :: x15 :: y :: r, ob⟩ := rfl
theorem sA17 : slotAt 17 ⟨x0 :: x1 :: x2 :: x3 :: x4 :: x5 :: x6 :: x7 :: x8 :: x9 :: x10 :: x11 :: x12 :: x13 :: x14 :: x15 :: x16 :: x17 :: r, ob⟩ = x17 := rfl
theorem sP17 : Sta.put ⟨x0 :: x1 :: x2 :: x3 :: x4 :: x5 :: x6 :: x7 :: x8 :: x9 :: x10 :: x11 :: x12 :: x13 :: x14 :: x15 :: x16 :: x17 :: r, ob⟩ 17 y = ⟨x0 :: x1 :: x2 :: x3 :: x4 :: x5 :: x6 :: x7 :: x8 :: x9 :: x10 :: x11 :: x12 :: x13 :: x14 :: x15 :: x16 :: y :: r, ob⟩ := rfl
theorem sA18 : slotAt 18 ⟨x0 :: x1 :: x2 :: x3 :: x4 :: x5 :: x6 :: x7 :: x8 :: x9 :: x10 :: x11 :: x12 :: x13 :: x14 :: x15 :: x16 :: x17 :: x18 :: r, ob⟩ = x18 := rfl
theorem sP18 : Sta.put ⟨x0 :: x1 :: x2 :: x3 :: x4 :: x5 :: x6 :: x7 :: x8 :: x9 :: x10 :: x11 :: x12 :: x13 :: x14 :: x15 :: x16 :: x17 :: x18 :: r, ob⟩ 18 y = ⟨x0 :: x1 :: x2 :: x3 :: x4 :: x5 :: x6 :: x7 :: x8 :: x9 :: x10 :: x11 :: x12 :: x13 :: x14 :: x15 :: x16 :: x17 :: y :: r, ob⟩ := rfl
theorem sA19 : slotAt 19 ⟨x0 :: x1 :: x2 :: x3 :: x4 :: x5 :: x6 :: x7 :: x8 :: x9 :: x10 :: x11 :: x12 :: x13 :: x14 :: x15 :: x16 :: x17 :: x18 :: x19 :: r, ob⟩ = x19 := rfl
theorem sP19 : Sta.put ⟨x0 :: x1 :: x2 :: x3 :: x4 :: x5 :: x6 :: x7 :: x8 :: x9 :: x10 :: x11 :: x12 :: x13 :: x14 :: x15 :: x16 :: x17 :: x18 :: x19 :: r, ob⟩ 19 y = ⟨x0 :: x1 :: x2 :: x3 :: x4 :: x5 :: x6 :: x7 :: x8 :: x9 :: x10 :: x11 :: x12 :: x13 :: x14 :: x15 :: x16 :: x17 :: x18 :: y :: r, ob⟩ := rfl
theorem lk0 {α : Type} : lenOk ([] : List α).length = true := rfl
theorem il0 {α : Type} : ((([] : List α).length : Nat) : Int) = 0 := rfl
theorem lk1 {α : Type}{x0 : α} : lenOk ([x0] : List α).length = true := rfl
theorem il1 {α : Type}{x0 : α} : ((([x0] : List α).length : Nat) : Int) = 1 := rfl
theorem lk2 {α : Type}{x0 x1 : α} : lenOk ([x0, x1] : List α).length = true := rfl
theorem il2 {α : Type}{x0 x1 : α} : ((([x0, x1] : List α).length : Nat) : Int) = 2 := rfl
theorem lk3 {α : Type}{x0 x1 x2 : α} : lenOk ([x0, x1, x2] : List α).length = true := rfl
theorem il3 {α : Type}{x0 x1 x2 : α} : ((([x0, x1, x2] : List α).length : Nat) : Int) = 3 := rfl
theorem lk4 {α : Type}{x0 x1 x2 x3 : α} : lenOk ([x0, x1, x2, x3] : List α).length = true := rfl
theorem il4 {α : Type}{x0 x1 x2 x3 : α} : ((([x0, x1, x2, x3] : List α).length : Nat) : Int) = 4 := rfl
theorem lk5 {α : Type}{x0 x1 x2 x3 x4 : α} : lenOk ([x0, x1, x2, x3, x4] : List α).length = true := rfl
theorem il5 {α : Type}{x0 x1 x2 x3 x4 : α} : ((([x0, x1, x2, x3, x4] : List α).length : Nat) : Int) = 5 := rfl
theorem lk6 {α : Type}{x0 x1 x2 x3 x4 x5 : α} : lenOk ([x0, x1, x2, x3, x4, x5] : List α).length = true := rfl
theorem il6 {α : Type}{x0 x1 x2 x3 x4 x5 : α} : ((([x0, x1, x2, x3, x4, x5] : List α).length : Nat) : Int) = 6 := rfl
theorem lk7 {α : Type}{x0 x1 x2 x3 x4 x5 x6 : α} : lenOk ([x0, x1, x2, x3, x4, x5, x6] : List α).length = true := rfl
theorem il7 {α : Type}{x0 x1 x2 x3 x4 x5 x6 : α} : ((([x0, x1, x2, x3, x4, x5, x6] : List α).length : Nat) : Int) = 7 := rfl
theorem lk8 {α : Type}{x0 x1 x2 x3 x4 x5 x6 x7 : α} : lenOk ([x0, x1, x2, x3, x4, x5, x6, x7] : List α).length = true := rfl
theorem il8 {α : Type}{x0 x1 x2 x3 x4 x5 x6 x7 : α} : ((([x0, x1, x2, x3, x4, x5, x6, x7] : List α).length : Nat) : Int) = 8 := rfl
theorem lk9 {α : Type}{x0 x1 x2 x3 x4 x5 x6 x7 x8 : α} : lenOk ([x0, x1, x2, x3, x4, x5, x6, x7, x8] : List α).length = true := rfl
theorem il9 {α : Type}{x0 x1 x2 x3 x4 x5 x6 x7 x8 : α} : ((([x0, x1, x2, x3, x4, x5, x6, x7, x8] : List α).length : Nat) : Int) = 9 := rfl
theorem lk10 {α : Type}{x0 x1 x2 x3 x4 x5 x6 x7 x8 x9 : α} : lenOk ([x0, x1, x2, x3, x4, x5, x6, x7, x8, x9] : List α).length = true := rfl
theorem il10 {α : Type}{x0 x1 x2 x3 x4 x5 x6 x7 x8 x9 : α} : ((([x0, x1, x2, x3, x4, x5, x6, x7, x8, x9] : List α).length : Nat) : Int) = 10 := rfl
theorem lk11 {α : Type}{x0 x1 x2 x3 x4 x5 x6 x7 x8 x9 x10 : α} : lenOk ([x0, x1, x2, x3, x4, x5, x6, x7, x8, x9, x10] : List α).length = true := rfl
theorem il11 {α : Type}{x0 x1 x2 x3 x4 x5 x6 x7 x8 x9 x10 : α} : ((([x0, x1, x2, x3, x4, x5, x6, x7, x8, x9, x10] : List α).length : Nat) : Int) = 11 := rfl
theorem lk12 {α : Type}{x0 x1 x2 x3 x4 x5 x6 x7 x8 x9 x10 x11 : α} : lenOk ([x0, x1, x2, x3, x4, x5, x6, x7, x8, x9, x10, x11] : List α).length = true := rfl
theorem il12 {α : Type}{x0 x1 x2 x3 x4 x5 x6 x7 x8 x9 x10 x11 : α} : ((([x0, x1, x2, x3, x4, x5, x6, x7, x8, x9, x10, x11] : List α).length : Nat) : Int) = 12 := rfl
theorem lk13 {α : Type}{x0 x1 x2 x3 x4 x5 x6 x7 x8 x9 x10 x11 x12 : α} : lenOk ([x0, x1, x2, x3, x4, x5, x6, x7, x8, x9, x10, x11, x12] : List α).length = true := rfl
theorem il13 {α : Type}{x0 x1 x2 x3 x4 x5 x6 x7 x8 x9 x10 x11 x12 : α} : ((([x0, x1, x2, x3, x4, x5, x6, x7, x8, x9, x10, x11, x12] : List α).length : Nat) : Int) = 13 := rfl
theorem lk14 {α : Type}{x0 x1 x2 x3 x4 x5 x6 x7 x8 x9 x10 x11 x12 x13 : α} : lenOk ([x0, x1, x2, x3, x4, x5, x6, x7, x8, x9, x10, x11, x12, x13] : List α).length = true := rfl
theorem il14 {α : Type}{x0 x1 x2 x3 x4 x5 x6 x7 x8 x9 x10 x11 x12 x13 : α} : ((([x0, x1, x2, x3, x4, x5, x6, x7, x8, x9, x10, x11, x12, x13] : List α).length : Nat) : Int) = 14 := rfl
theorem lk15 {α : Type}{x0 x1 x2 x3 x4 x5 x6 x7 x8 x9 x10 x11 x12 x13 x14 : α} : lenOk ([x0, x1, x2, x3, x4, x5, x6, x7, x8, x9, x10, x11, x12, x13, x14] : List α).length = true := rfl
theorem il15 {α : Type}{x0 x1 x2 x3 x4 x5 x6 x7 x8 x9 x10 x11 x12 x13 x14 : α} : ((([x0, x1, x2, x3, x4, x5, x6, x7, x8, x9, x10, x11, x12, x13, x14] : List α).length : Nat) : Int) = 15 := rfl
theorem lk16 {α : Type}{x0 x1 x2 x3 x4 x5 x6 x7 x8 x9 x10 x11 x12 x13 x14 x15 : α} : lenOk ([x0, x1, x2, x3, x4, x5, x6, x7, x8, x9, x10, x11, x12, x13, x14, x15] : List α).length = true := rfl
theorem il16 {α : Type}{x0 x1 x2 x3 x4 x5 x6 x7 x8 x9 x10 x11 x12 x13 x14 x15 : α} : ((([x0, x1, x2, x3, x4, x5, x6, x7, x8, x9, x10, x11, x12, x13, x14, x15] : List α).length : Nat) : Int) = 16 := rfl
end
section
theorem o0_ : opBin .add (.int i) (.int j) = some (.fr (.int (i + j))) := rfl
theorem o1_ : opBin .sub (.int i) (.int j) = some (.fr (.int (i - j))) := rfl
theorem o2_ : opBin .add (.bl b) (.int j) = some (.fr (.int ((if b = true then (1 : Int) else 0) + j))) := rfl
theorem o3_ : opBin .sub (.bl b) (.int j) = some (.fr (.int ((if b = true then (1 : Int) else 0) - j))) := rfl
theorem o4_ : cmpR op a b = (opCmp op a b).map fun r => .fr (.bl r) := rfl
theorem o5_ {α β : Type} {f : α → β} {a : α} {k : α → Option β} : (Option.map f (some a) : Option β) = some (f a) := rfl
theorem o6_ {α β : Type} {f : α → β} {a : α} {k : α → Option β} : (Option.bind (some a) k : Option β) = k a := rfl
theorem o7_ : opCmp .eq x y = pyEq x y := rfl
theorem o8_ : opCmp .ne x y = (pyEq x y).map (!·) := rfl
theorem o9_ : opCmp .lt (.int i) (.int j) = some (decide (i < j)) := rfl
theorem o10_ : opCmp .le (.int i) (.int j) = some (decide (i ≤ j)) := rfl
theorem o11_ : opCmp .gt (.int i) (.int j) = some (decide (j < i)) := rfl
theorem o12_ : opCmp .ge (.int i) (.int j) = some (decide (j ≤ i)) := rfl
theorem o13_ : opCmp .inn x (.lst ys) = pyIn x ys := rfl
theorem o14_ : opCmp .inn x (.tup ys) = pyIn x ys := rfl
theorem o15_ : opCmp .nin x (.lst ys) = (pyIn x ys).map (!·) := rfl
theorem o16_ : opCmp .nin x (.tup ys) = (pyIn x ys).map (!·) := rfl
theorem o17_ : opCmp .isx (.bl b) (.bl c) = some (decide (b = c)) := rfl
theorem o18_ : opCmp .isn (.bl b) (.bl c) = some (!decide (b = c)) := rfl
theorem o19_ : ixR a b = (opIx a b).map fun v => .fr v := rfl
theorem o20_ : opIx (.lst xs) (.int k) = L2.atI xs k := rfl
theorem o21_ : opIx (.tup xs) (.int k) = L2.atI xs k := rfl
theorem o22_ : opSl (.lst xs) lo hi = some (.own (.lst (cutP xs lo hi))) := rfl
theorem o23_ : opSl (.tup xs) lo hi = some (.fr (.tup (cutP xs lo hi))) := rfl
theorem o24_ : opRev (.lst xs) = some (.own (.lst xs.reverse)) := rfl
theorem o25_ : opRev (.tup xs) = some (.fr (.tup xs.reverse)) := rfl
theorem o26_ : opBi .len [.lst xs] = some (.fr (.int xs.length)) := rfl
theorem o27_ : opBi .len [.tup xs] = some (.fr (.int xs.length)) := rfl
theorem o28_ : opBi .list [.lst xs] = some (.own (.lst xs)) := rfl
theorem o29_ : opBi .list [.tup xs] = some (.own (.lst xs)) := rfl
theorem o30_ : opBi .tuple [.lst xs] = some (.fr (.tup xs)) := rfl
theorem o31_ : opBi .tuple [.tup xs] = some (.fr (.tup xs)) := rfl
theorem o32_ : opBi .int [.int i] = some (.fr (.int i)) := rfl
theorem o33_ : opBi .max [.int i, .int j] = some (.fr (.int (if j > i then j else i))) := rfl
theorem o34_ : opBi .abs [.int i] = some (.fr (.int (if i < 0 then -i else i))) := rfl
theorem o35_ : opBi .all [.lst xs] = (bls xs).map fun bs => .fr (.bl (bs.all id)) := rfl
theorem o36_ : opBi .any [.lst xs] = (bls xs).map fun bs => .fr (.bl (bs.any id)) := rfl
theorem o37_ : opBi .sum [.lst xs] = (intL xs).map fun ns => .fr (.int ns.sum) := rfl
theorem o38_ : opBi (.isA T) [v] = (isTy T v).map fun b => .fr (.bl b) := rfl
theorem o39_ : opBi (.isX k) [.exn c] = some (.fr (.bl (c == k))) := rfl
theorem o40_ : opBi .isV [.exn c] = some (.fr (.bl true)) := rfl
theorem o41_ : isTy T .non = some false := rfl
theorem o42_ : isTy .int (.bl b) = some true := rfl
theorem o43_ : isTy .bool (.bl b) = some true := rfl
theorem o44_ : isTy .str (.bl b) = some false := rfl
theorem o45_ : isTy .list (.bl b) = some false := rfl
theorem o46_ : isTy .tuple (.bl b) = some false := rfl
theorem o47_ : isTy .int (.int i) = some true := rfl
theorem o48_ : isTy .bool (.int i) = some false := rfl
theorem o49_ : isTy .str (.int i) = some false := rfl
theorem o50_ : isTy .list (.int i) = some false := rfl
theorem o51_ : isTy .tuple (.int i) = some false := rfl
theorem o52_ : isTy .int (.str z) = some false := rfl
theorem o53_ : isTy .bool (.str z) = some false := rfl
theorem o54_ : isTy .str (.str z) = some true := rfl
theorem o55_ : isTy .list (.str z) = some false := rfl
theorem o56_ : isTy .tuple (.str z) = some false := rfl
theorem o57_ : isTy .int (.tup xs) = some false := rfl
theorem o58_ : isTy .bool (.tup xs) = some false := rfl
theorem o59_ : isTy .str (.tup xs) = some false := rfl
theorem o60_ : isTy .list (.tup xs) = some false := rfl
theorem o61_ : isTy .tuple (.tup xs) = some true := rfl
theorem o62_ : isTy .int (.lst xs) = some false := rfl
theorem o63_ : isTy .bool (.lst xs) = some false := rfl
theorem o64_ : isTy .str (.lst xs) = some false := rfl
theorem o65_ : isTy .list (.lst xs) = some true := rfl
theorem o66_ : isTy .tuple (.lst xs) = some false := rfl
end
end Qv
end
section
set_option Elab.async false
set_option linter.all false
set_option autoImplicit true
/-! W2: plain data, loops -/
namespace Qv
open PySem
/-- plain data of a depth and a width -/
inductive PL (L : Nat) : Nat → PV → Prop
  | non {d} : PL L d .non
  | bl {d b} : PL L d (.bl b)
  | int {d i} : PL L d (.int i)
  | str {d z} : PyData.strOk z = true → PL L d (.str z)
  | tup {d xs} : xs.length ≤ L → (∀ x ∈ xs, PL L d x) → PL L (d + 1) (.tup xs)
  | lst {d xs} : xs.length ≤ L → (∀ x ∈ xs, PL L d x) → PL L (d + 1) (.lst xs)
theorem PL.mono {L L' d d' : Nat} {v : PV} (h : PL L d v) (hL : L ≤ L') (hd : d ≤ d') : PL L' d' v := by
  induction h generalizing d' with
  | non => exact .non
  | bl => exact .bl
  | int => exact .int
  | str h => exact .str h
  | tup h _ ih =>
    obtain ⟨k, rfl⟩ : ∃ k, d' = k + 1 := ⟨d' - 1, by omega⟩
    exact .tup (by omega) fun x hx => ih x hx (by omega)
  | lst h _ ih =>
    obtain ⟨k, rfl⟩ : ∃ k, d' = k + 1 := ⟨d' - 1, by omega⟩
    exact .lst (by omega) fun x hx => ih x hx (by omega)
theorem lay_all {d : Nat} : ∀ xs : List PV, (∀ x ∈ xs, (toD x).canLay0 = true ∧ (toD x).depth ≤ d) → PyData.canLayAll0 (toDs xs) = true ∧ PyData.depthAll (toDs xs) ≤ d
  | [], _ => ⟨rfl, Nat.zero_le _⟩
  | x :: xs, h => by
    have a := h x (by simp)
    have b := lay_all xs fun y hy => h y (by simp [hy])
    simp only [toDs, PyData.canLayAll0, PyData.depthAll, a.1, b.1, Bool.and_self, true_and]
    omega
theorem PL.lay {L d : Nat} {v : PV} (h : PL L d v) : (toD v).canLay0 = true ∧ (toD v).depth ≤ d := by
  induction h with
  | non => exact ⟨rfl, Nat.zero_le _⟩
  | bl => exact ⟨rfl, Nat.zero_le _⟩
  | int => exact ⟨rfl, Nat.zero_le _⟩
  | str h => exact ⟨by simpa [toD, PyData.canLay0] using h, Nat.zero_le _⟩
  | tup h _ ih =>
    have a := lay_all _ ih
    simp only [toD, PyData.canLay0, PyData.depth]
    exact ⟨a.1, by omega⟩
  | lst h _ ih =>
    have a := lay_all _ ih
    simp only [toD, PyData.canLay0, PyData.depth]
    exact ⟨a.1, by omega⟩
theorem datas_all : ∀ xs : List PV, (∀ x ∈ xs, x.data = true) → PV.datas xs = true
  | [], _ => rfl
  | x :: xs, h => by
    have a := h x (by simp)
    have b := datas_all xs fun y hy => h y (by simp [hy])
    simp only [PV.datas, a, b, Bool.and_self]
theorem PL.dat {L d : Nat} {v : PV} (h : PL L d v) : v.data = true := by
  induction h with
  | tup h _ ih => simp only [PV.data]; exact datas_all _ ih
  | lst h _ ih => simp only [PV.data]; exact datas_all _ ih
  | _ => rfl
theorem PL.shaped {L d : Nat} {v : PV} (h : PL L d v) (hd : d ≤ 64) : SeqAt.shaped (toD v) = true := by
  have a := h.lay
  simp only [SeqAt.shaped, a.1, Bool.true_and, decide_eq_true_eq]; omega
/-- == of plain data -/
def eqP (a b : PV) : Bool := PyData.eqv (toD a) (toD b)
theorem pyEq_pl {L d L' d' : Nat} {a b : PV} (h : PL L d a) (h' : PL L' d' b) (hd : d ≤ 64) (hd' : d' ≤ 64) : pyEq a b = some (eqP a b) := by
  simp only [pyEq, h.shaped hd, h'.shaped hd', Bool.and_self, if_true, eqP]
theorem pyEq_ss {x y : Str} (h : PyData.strOk x = true) (h' : PyData.strOk y = true) : pyEq (.str x) (.str y) = some (x == y) := by
  rw [pyEq_pl (PL.str (L := 0) (d := 0) h) (PL.str (L := 0) (d := 0) h') (by decide) (by decide)]; simp [eqP, toD, PyData.eqv]
theorem pyEq_ii {i j : Int} : pyEq (.int i) (.int j) = some (i == j) := by
  rw [pyEq_pl (PL.int (L := 0) (d := 0)) (PL.int (L := 0) (d := 0)) (by decide) (by decide)]; simp [eqP, toD, PyData.eqv]
theorem pyEq_bb {i j : Bool} : pyEq (.bl i) (.bl j) = some (i == j) := by
  rw [pyEq_pl (PL.bl (L := 0) (d := 0)) (PL.bl (L := 0) (d := 0)) (by decide) (by decide)]; simp [eqP, toD, PyData.eqv]
theorem pyIn_pl {L d L' d' : Nat} {a : PV} {ys : List PV} (h : PL L d a) (h' : PL L' d' (.tup ys)) (hd : d ≤ 64) (hd' : d' ≤ 64) : pyIn a ys = some (ys.any fun y => eqP y a) := by
  have b := h'.shaped hd'
  have b2 : SeqAt.shaped (.list (toDs ys)) = true := by
    simp only [SeqAt.shaped, toD, PyData.canLay0, PyData.depth] at b ⊢; exact b
  simp only [pyIn, h.shaped hd, b2, Bool.and_self, if_true]
  congr 1
  clear b b2 h' h
  induction ys with
  | nil => rfl
  | cons y ys ih => simp only [toDs, List.any_cons, ih, eqP]
theorem eqP_ss {x y : Str} : eqP (.str x) (.str y) = (x == y) := by simp [eqP, toD, PyData.eqv]
theorem eqP_ii {x y : Int} : eqP (.int x) (.int y) = (x == y) := by simp [eqP, toD, PyData.eqv]
theorem eqP_bb {x y : Bool} : eqP (.bl x) (.bl y) = (x == y) := by simp [eqP, toD, PyData.eqv]
theorem eqP_l {xs ys : List PV} : eqP (.lst xs) (.lst ys) = PyData.eqvAll (toDs xs) (toDs ys) := by simp [eqP, toD, PyData.eqv]
theorem eqP_t {xs ys : List PV} : eqP (.tup xs) (.tup ys) = PyData.eqvAll (toDs xs) (toDs ys) := by simp [eqP, toD, PyData.eqv]
theorem eqvAll_nil : ∀ xs : List PV, PyData.eqvAll (toDs xs) (toDs []) = xs.isEmpty
  | [] => rfl
  | _ :: _ => by simp [toDs, PyData.eqvAll]
/-- an item of a plain list that has no items is plain: lists that are compared with [] -/
theorem pyEq_nil {L d : Nat} {xs : List PV} (h : ∀ x ∈ xs, PL L d x) (hl : xs.length ≤ L) (hd : d ≤ 63) : pyEq (.lst xs) (.lst []) = some xs.isEmpty := by
  rw [pyEq_pl (PL.lst hl h) (PL.lst (L := 0) (d := 0) (Nat.le_refl _) (by simp)) (by omega) (by decide), eqP_l, eqvAll_nil]

/-! ### loops -/
def turnK (b : M Fl) (_ : Unit) : M Fl := fun s => b s
def turnR (g : PV → M Unit) (b : M Fl) (v : PV) : M Fl := fun s => (g v s).bind (turnK b)
theorem turnK_eq {b : M Fl} : turnK b u s = b s := rfl
theorem turnR_eq {g : PV → M Unit} {b : M Fl} : turnR g b v s = (g v s).bind (turnK b) := rfl
def forK (g : PV → M Unit) (b : M Fl) (vs : List PV) (f : Fl) : M Fl := fun s => match f with
  | .nx => forGo g b vs s
  | .ret r => .ok (.ret r) s
theorem forGo_cons {g : PV → M Unit} {b : M Fl} : forGo g b (v :: vs) s = (turnR g b v s).bind (forK g b vs) := by
  show (g v s).bind _ = ((g v s).bind (turnK b)).bind _
  cases g v s with
  | exc => rfl
  | bad => rfl
  | ok u s =>
    show (b s).bind _ = (b s).bind _
    congr 1; funext f s; cases f <;> rfl
theorem forGo_nil {g : PV → M Unit} {b : M Fl} : forGo g b [] s = .ok .nx s := rfl
theorem forGo_nx {g : PV → M Unit} {b : M Fl} (P : List PV → Sta → Prop)
    (step : ∀ v vs s, P (v :: vs) s → ∃ s', turnR g b v s = .ok .nx s' ∧ P vs s') :
    ∀ vs s, P vs s → ∃ s', forGo g b vs s = .ok .nx s' ∧ P [] s'
  | [], s, h => ⟨s, rfl, h⟩
  | v :: vs, s, h => by
    obtain ⟨s', e, h'⟩ := step v vs s h
    obtain ⟨s2, e2, h2⟩ := forGo_nx P step vs s' h'
    exact ⟨s2, by rw [forGo_cons, e]; exact e2, h2⟩
theorem forGo_or {g : PV → M Unit} {b : M Fl} (P : List PV → Sta → Prop) (Q : RV → Sta → Prop)
    (step : ∀ v vs s, P (v :: vs) s → (∃ s', turnR g b v s = .ok .nx s' ∧ P vs s') ∨ ∃ r s', turnR g b v s = .ok (.ret r) s' ∧ Q r s') :
    ∀ vs s, P vs s → (∃ s', forGo g b vs s = .ok .nx s' ∧ P [] s') ∨ ∃ r s', forGo g b vs s = .ok (.ret r) s' ∧ Q r s'
  | [], s, h => .inl ⟨s, rfl, h⟩
  | v :: vs, s, h => by
    rcases step v vs s h with ⟨s', e, h'⟩ | ⟨r, s', e, h'⟩
    · rcases forGo_or P Q step vs s' h' with ⟨s2, e2, h2⟩ | ⟨r, s2, e2, h2⟩
      · exact .inl ⟨s2, by rw [forGo_cons, e]; exact e2, h2⟩
      · exact .inr ⟨r, s2, by rw [forGo_cons, e]; exact e2, h2⟩
    · exact .inr ⟨r, s', by rw [forGo_cons, e]; rfl, h'⟩
theorem noX_ok {m : M α} {s s' : Sta} {a : α} (h : m s = .ok a s') : noX m s = .ok a s' := by simp only [noX, h]
def cT4 (y : PV) : M (Option PV) := fun s => .ok (some y) s
def cT3 (e : M PV) : M (Option PV) := fun s => (e s).bind cT4
def cT0 : M (Option PV) := fun s => .ok none s
def cT2 (e : M PV) (b : Bool) : M (Option PV) := fun s => ifR b (cT3 e) cT0 s
def cT1 (c : M Bool) (e : M PV) (_ : Unit) : M (Option PV) := fun s => (c s).bind (cT2 e)
/-- a comprehension's turn -/
def cTurn (g : PV → M Unit) (c : M Bool) (e : M PV) (v : PV) : M (Option PV) := fun s => (g v s).bind (cT1 c e)
theorem cT4_eq : cT4 y s = .ok (some y) s := rfl
theorem cT3_eq {e : M PV} : cT3 e s = (e s).bind cT4 := rfl
theorem cT0_eq : cT0 s = .ok none s := rfl
theorem cT2_eq {e : M PV} : cT2 e b s = ifR b (cT3 e) cT0 s := rfl
theorem cT1_eq {c : M Bool} {e : M PV} : cT1 c e u s = (c s).bind (cT2 e) := rfl
theorem cTurn_eq {g : PV → M Unit} {c : M Bool} {e : M PV} : cTurn g c e v s = (g v s).bind (cT1 c e) := rfl
def cK (own : List Nat) (g : PV → M Unit) (c : M Bool) (e : M PV) (vs acc : List PV) (o : Option PV) : M (List PV) := fun s => match o with
  | none => compGo own g c e vs acc s
  | some y => compGo own g c e vs (acc ++ [y]) s
theorem compGo_cons {own : List Nat} {g : PV → M Unit} {c : M Bool} {e : M PV} : compGo own g c e (v :: vs) acc s = (cTurn g c e v (s.wipe own)).bind (cK own g c e vs acc) := by
  show (g v (s.wipe own)).bind _ = ((g v (s.wipe own)).bind (cT1 c e)).bind _
  cases g v (s.wipe own) with
  | exc => rfl
  | bad => rfl
  | ok u s =>
    show (c s).bind _ = ((c s).bind (cT2 e)).bind _
    cases c s with
    | exc => rfl
    | bad => rfl
    | ok b s =>
      cases b with
      | false => rfl
      | true =>
        show (e s).bind _ = ((e s).bind cT4).bind _
        cases e s <;> rfl
/-- a comprehension whose turns leave everything else alone -/
theorem compGo_fm {own : List Nat} {g : PV → M Unit} {c : M Bool} {e : M PV} (f : PV → Option PV) {s0 : Sta} {vs : List PV}
    (step : ∀ v ∈ vs, ∃ s', cTurn g c e v s0 = .ok (f v) s' ∧ s'.wipe own = s0) :
    ∀ (acc : List PV) (s : Sta), s.wipe own = s0 → compGo own g c e vs acc s = .ok (acc ++ vs.filterMap f) s0 := by
  induction vs with
  | nil => intro acc s h; simp only [List.filterMap_nil, List.append_nil]; rw [← h]; rfl
  | cons v vs ih =>
    intro acc s h
    obtain ⟨s', hs, hw⟩ := step v (by simp)
    have ih := ih fun x hx => step x (by simp [hx])
    rw [compGo_cons, h, hs, R.bind_ok]
    cases hf : f v with
    | none => rw [List.filterMap_cons_none hf]; exact ih acc s' hw
    | some y => rw [List.filterMap_cons_some hf]; exact (ih (acc ++ [y]) s' hw).trans (by simp)
/-- comprehensions -/
theorem comp_map {F : FT} {elt cond : E} {tg : Tg} {own : List Nat} (f : PV → PV) {s0 : Sta} {vs : List PV}
    (step : ∀ v ∈ vs, ∃ s', cTurn (setTg tg) (condB cond (dE F cond)) (eltM F elt) v s0 = .ok (some (f v)) s' ∧ s'.wipe own = s0)
    (s : Sta) (h : s.wipe own = s0) : compR F elt tg cond own vs s = .ok (vs.map f) s0 := by
  have := compGo_fm (fun v => some (f v)) step [] s h
  unfold compR; rw [noX_ok this]; simp
theorem comp_fm {F : FT} {elt cond : E} {tg : Tg} {own : List Nat} (f : PV → Option PV) {s0 : Sta} {vs : List PV}
    (step : ∀ v ∈ vs, ∃ s', cTurn (setTg tg) (condB cond (dE F cond)) (eltM F elt) v s0 = .ok (f v) s' ∧ s'.wipe own = s0)
    (s : Sta) (h : s.wipe own = s0) : compR F elt tg cond own vs s = .ok (vs.filterMap f) s0 := by
  unfold compR; rw [noX_ok (compGo_fm f step [] s h)]; simp
def whlK2 (c : M Bool) (b : M Fl) (n : Nat) (f : Fl) : M Fl := fun s => match f with
  | .nx => whlGo c b n s
  | .ret r => .ok (.ret r) s
def whlK1 (c : M Bool) (b : M Fl) (n : Nat) (x : Bool) : M Fl := fun s => if x = true then (b s).bind (whlK2 c b n) else .ok .nx s
theorem whlGo_succ {c : M Bool} {b : M Fl} : whlGo c b (n + 1) s = (c s).bind (whlK1 c b n) := by
  show (c s).bind _ = _
  congr 1; funext x s
  cases x with
  | false => rfl
  | true =>
    show (b s).bind _ = (b s).bind _
    congr 1; funext f s; cases f <;> rfl
theorem whl_rule {c : M Bool} {b : M Fl} (P : Nat → Sta → Prop) (Q : Sta → Prop)
    (step : ∀ k s, P k s → (∃ s1, c s = .ok false s1 ∧ Q s1) ∨ ∃ s1 s2 k', c s = .ok true s1 ∧ b s1 = .ok .nx s2 ∧ P k' s2 ∧ k' < k) :
    ∀ n k s, P k s → k < n → ∃ s', whlGo c b n s = .ok .nx s' ∧ Q s'
  | 0, k, s, _, hk => absurd hk (by omega)
  | n + 1, k, s, h, hk => by
    rcases step k s h with ⟨s1, e, q⟩ | ⟨s1, s2, k', e1, e2, p, lt⟩
    · exact ⟨s1, by rw [whlGo_succ, e]; rfl, q⟩
    · obtain ⟨s', e3, q⟩ := whl_rule P Q step n k' s2 p (by omega)
      refine ⟨s', ?_, q⟩
      rw [whlGo_succ, e1]
      show (b s1).bind _ = _
      rw [e2]; exact e3
theorem bls_map {α : Type} (xs : List α) (f : α → Bool) : bls (xs.map fun x => .bl (f x)) = some (xs.map f) := by
  induction xs with
  | nil => rfl
  | cons x xs ih => simp [bls, ih]
theorem intL_map {α : Type} (xs : List α) (f : α → Int) : intL (xs.map fun x => .int (f x)) = some (xs.map f) := by
  induction xs with
  | nil => rfl
  | cons x xs ih => simp [intL, ih]
theorem lenOk_le {n : Nat} (h : n ≤ 16000000) : lenOk n = true := by simp [lenOk, h]
theorem atI_nat {α : Type} {xs : List α} {k : Nat} : L2.atI xs (k : Int) = xs[k]? := by
  unfold L2.atI L2.ixN
  by_cases h : (k : Int) < xs.length
  · rw [if_pos (by omega), if_pos h]; simp
  · rw [if_pos (by omega), if_neg h]; simp; omega
theorem atI_nonneg {α : Type} {xs : List α} {k : Int} (h : 0 ≤ k) : L2.atI xs k = xs[k.toNat]? := by
  obtain ⟨n, rfl⟩ := Int.eq_ofNat_of_zero_le h
  exact atI_nat
theorem atI0 {x : PV} {xs : List PV} : L2.atI (x :: xs) 0 = some x := by rw [show (0 : Int) = ((0 : Nat) : Int) from rfl, atI_nat]; rfl
theorem atI1 {x y : PV} {xs : List PV} : L2.atI (x :: y :: xs) 1 = some y := by rw [show (1 : Int) = ((1 : Nat) : Int) from rfl, atI_nat]; rfl
theorem atI2 {x y z : PV} {xs : List PV} : L2.atI (x :: y :: z :: xs) 2 = some z := by rw [show (2 : Int) = ((2 : Nat) : Int) from rfl, atI_nat]; rfl
theorem atI3 {x y z u : PV} {xs : List PV} : L2.atI (x :: y :: z :: u :: xs) 3 = some u := by rw [show (3 : Int) = ((3 : Nat) : Int) from rfl, atI_nat]; rfl
theorem rngP_zero (n : Nat) : rngP 0 n = (List.range n).map fun k => .int k := by
  unfold rngP; simp
theorem mem_rngP {v : PV} {lo hi : Int} (h : v ∈ rngP lo hi) : ∃ j : Int, v = .int j ∧ lo ≤ j ∧ j < hi := by
  unfold rngP at h
  obtain ⟨k, hk, rfl⟩ := List.mem_map.mp h
  have := List.mem_range.mp hk
  exact ⟨_, rfl, by omega, by omega⟩
theorem len_rngP {lo hi : Int} : (rngP lo hi).length = (hi - lo).toNat := by simp [rngP]
theorem rng1_ok {i : Int} {s : Sta} (h : -1000000 ≤ i) (h' : i ≤ 1000000) : k_i_rng1'2 i s = .ok (rngP 0 i) s := by
  have e : (small62 i && lenOk (rngP 0 i).length) = true := by
    rw [small62_of (by omega) (by omega), lenOk_le (by rw [len_rngP]; omega)]; rfl
  rw [k_i_rng1'2_eq, e]; rfl
theorem rng2_ok {i j : Int} {s : Sta} (h : -1000000 ≤ i) (h' : i ≤ 1000000) (g : -1000000 ≤ j) (g' : j ≤ 1000000) : k_i_rng2'4 i j s = .ok (rngP i j) s := by
  have e : ((small62 i && small62 j) && lenOk (rngP i j).length) = true := by
    rw [small62_of (by omega) (by omega), small62_of (by omega) (by omega), lenOk_le (by rw [len_rngP]; omega)]; rfl
  rw [k_i_rng2'4_eq, e]; rfl
theorem rngP_step {i j : Int} (h : i < j) : rngP i j = .int i :: rngP (i + 1) j := by
  unfold rngP
  obtain ⟨n, hn⟩ : ∃ n, (j - i).toNat = n + 1 := ⟨(j - i).toNat - 1, by omega⟩
  have hn' : (j - (i + 1)).toNat = n := by omega
  rw [hn, hn', List.range_succ_eq_map]
  simp only [List.map_cons, List.map_map]
  congr 1
  · simp
  · apply List.map_congr_left; intro a _; simp; omega
theorem rngP_end {i j : Int} (h : j ≤ i) : rngP i j = [] := by
  unfold rngP
  have : (j - i).toNat = 0 := by omega
  rw [this]; rfl
theorem flat_rep {x : PV} : ∀ k : Nat, (List.replicate k [x]).flatten = List.replicate k x
  | 0 => rfl
  | k + 1 => by rw [List.replicate_succ, List.flatten_cons, flat_rep k, List.replicate_succ]; rfl
theorem opRep {x : PV} {k : Int} (h : 0 ≤ k) (h' : k ≤ 1000) : opBin .mul (.lst [x]) (.int k) = some (.own (.lst (List.replicate k.toNat x))) := by
  have : (decide (0 ≤ k) && decide (k ≤ 1000) && decide ([x].length ≤ 1000)) = true := by simp [h, h']
  simp only [opBin, this, if_true, flat_rep]
theorem opRepT {x : PV} {k : Int} (h : 0 ≤ k) (h' : k ≤ 1000) : opBin .mul (.tup [x]) (.int k) = some (.fr (.tup (List.replicate k.toNat x))) := by
  have : (decide (0 ≤ k) && decide (k ≤ 1000) && decide ([x].length ≤ 1000)) = true := by simp [h, h']
  simp only [opBin, this, if_true, flat_rep]
theorem setIx_ok {xs : List PV} {i : Int} {v : PV} (h : 0 ≤ i) (h' : i < xs.length) : setIx (.lst xs) (.int i) v = some (.lst (xs.set i.toNat v)) := by
  have : i.toNat < xs.length := by omega
  simp only [setIx, if_pos h, if_pos this]
theorem opJoin {a : Str} {xs : List PV} {ys : List Str} (h : strL xs = some ys) (hl : (ys.map Str.length).sum + ys.length * a.length ≤ 16777216) : opTx .join a (.lst xs) = some (.fr (.str (Txt.join a ys))) := by
  have hl' : (ys.map (·.length)).sum + ys.length * a.length ≤ 16777216 := hl
  simp only [opTx, h, Option.bind_some, decide_eq_true hl', if_true]
theorem strL_map {α : Type} (xs : List α) (f : α → Str) : strL (xs.map fun x => .str (f x)) = some (xs.map f) := by
  induction xs with
  | nil => rfl
  | cons x xs ih => simp [strL, ih]
theorem strL_id (xs : List Str) : strL (xs.map fun x => .str x) = some xs := by
  induction xs with
  | nil => rfl
  | cons x xs ih => simp [strL, ih]
theorem opSplit {a b : Str} (h : b.length = 1) (hl : a.length ≤ 16000000) : opTx .split a (.str b) = some (.own (.lst ((Txt.split a b).map .str))) := by
  simp only [opTx, h, lenOk_le hl]; rfl
theorem opAddS {x y : Str} (h : x.length + y.length ≤ 16000000) : opBin .add (.str x) (.str y) = some (.fr (.str (x ++ y))) := by
  simp only [opBin, lenOk_le h, if_true]
theorem opFmtI {i : Int} (h : i.natAbs.log2 < 1920) : opFmt (.int i) = some (.fr (.str (Str.ofString (toString i)))) := by
  simp only [opFmt, decide_eq_true h, if_true]
theorem opFmtS {z : Str} (h : z.length ≤ 16000000) : opFmt (.str z) = some (.fr (.str z)) := by
  simp only [opFmt, lenOk_le h, if_true]
theorem opSlS {z : Str} {lo hi : Option Int} (h : z.length ≤ 16000000) : opSl (.str z) lo hi = some (.fr (.str (Txt.slice z lo hi))) := by
  simp only [opSl, lenOk_le h, if_true]
theorem opAddT {xs ys : List PV} (h : xs.length + ys.length ≤ 16000000) : opBin .add (.tup xs) (.tup ys) = some (.fr (.tup (xs ++ ys))) := by
  simp only [opBin, lenOk_le h, if_true]
theorem opAddL {xs ys : List PV} (h : xs.length + ys.length ≤ 16000000) : opBin .add (.lst xs) (.lst ys) = some (.own (.lst (xs ++ ys))) := by
  simp only [opBin, lenOk_le h, if_true]
end Qv
end
section
set_option Elab.async false
set_option linter.all false
set_option autoImplicit false
set_option maxRecDepth 100000
set_option maxHeartbeats 1000000
/-! Q2: how the trees stand in the machine's heap. -/
namespace Qv
open PySem PySem.Spec PyProof.Rows L2
abbrev Sg := L2.St

/-- a lambda of the program: its text, the names that it captures -/
structure LamD where
  qual : Str
  params : Arguments
  body : Expr
  scope : Scope
  ps : List Str
  fr : List Str
/-- where the program's defs and classes stand, its lambdas, the tables of their code -/
structure Nm where
  fa : Nat → Addr
  ca : Nat → Addr
  la : Nat → LamD
  tbs : List (Addr × (Nat → Nat → Str))
  xa : Option (Addr × Nat)

/-- what stands still stands: tuples, and what nobody changes any more -/
structure Kp (ρ : List Addr) (H : Hp) (ρ' : List Addr) (H' : Hp) : Prop where
  tup : ∀ a vs, H a = some (.tup vs) → H' a = some (.tup vs)
  frz : ∀ a o u, H a = some (.frz o u) → H' a = some (.frz o u)
  pre : ρ <+: ρ'
theorem Kp.refl {ρ : List Addr} {H : Hp} : Kp ρ H ρ H := ⟨fun _ _ h => h, fun _ _ _ h => h, List.prefix_refl _⟩
theorem Kp.trans {ρ ρ1 ρ2 : List Addr} {H H1 H2 : Hp} (a : Kp ρ H ρ1 H1) (b : Kp ρ1 H1 ρ2 H2) : Kp ρ H ρ2 H2 :=
  ⟨fun c vs h => b.tup c vs (a.tup c vs h), fun c o u h => b.frz c o u (a.frz c o u h), a.pre.trans b.pre⟩
/-- the captured cells: they are held still now, and were nobody's when the values were told -/
structure CellsF (H H0 : Hp) (cl : List (Str × Addr)) (fr : List Str) (vs : List V) : Prop where
  len : vs.length = fr.length
  all : ∀ y c, cl.lookup y = some c → y ∈ fr
  inj : ∀ x y c, cl.lookup x = some c → cl.lookup y = some c → x = y
  at_ : ∀ (i : Nat) (y : Str), fr[i]? = some y → ∃ c o u v, cl.lookup y = some c ∧ H c = some (.frz o (.own 0)) ∧ H0 c = none ∧ o.data = .cell (some u) ∧ vs[i]? = some v ∧ L2.RelV v u
/-- a closure's object -/
structure CloAt (L : LamD) (H H0 : Hp) (f : Addr) (vs : List V) : Prop where
  ex : ∃ (pm ctv : Value) (c : Addr) (cl : List (Str × Addr)) (oc : Obj) (cvs : Array Value) (t : Tok), H f = some (.frz (PySem.W.kla_obj "<lambda>" L.qual L.params L.body L.scope cl pm c ctv) (.own 0)) ∧
    H c = some (.frz oc (.own 0)) ∧ oc.data = .fields cvs ∧ cvs[1]? = some (.str L.qual t) ∧ CellsF H H0 cl L.fr vs
theorem CellsF.kp {ρ ρ' : List Addr} {H H0 H' : Hp} {cl : List (Str × Addr)} {fr : List Str} {vs : List V} (k : Kp ρ H ρ' H') (h : CellsF H H0 cl fr vs) : CellsF H' H0 cl fr vs :=
  ⟨h.len, h.all, h.inj, fun i y e => by
    obtain ⟨c, o, u, v, e1, e2, e3, e4⟩ := h.at_ i y e
    exact ⟨c, o, u, v, e1, k.frz _ _ _ e2, e3, e4⟩⟩
theorem CloAt.kp {ρ ρ' : List Addr} {L : LamD} {H H0 H' : Hp} {f : Addr} {vs : List V} (k : Kp ρ H ρ' H') (h : CloAt L H H0 f vs) : CloAt L H' H0 f vs := by
  obtain ⟨pm, ctv, c, cl, oc, cvs, t, h1, h2, h3, h4, h5⟩ := h.ex
  exact ⟨pm, ctv, c, cl, oc, cvs, t, k.frz _ _ _ h1, k.frz _ _ _ h2, h3, h4, h5.kp k⟩
mutual
inductive Rp (Z : Nm) (ρ : List Addr) : Hp → PV → V → Prop
  | non {H : Hp} : Rp Z ρ H .non .non
  | bl {H : Hp} (b : Bool) : Rp Z ρ H (.bl b) (.bl b)
  | int {H : Hp} (i : Int) : Rp Z ρ H (.int i) (.int i)
  | str {H : Hp} (x : Str) : Rp Z ρ H (.str x) (.str x)
  | tup {H : Hp} {a : Addr} {xs : List PV} {vs : List V} : H a = some (.tup vs) → Rps Z ρ H xs vs → Rp Z ρ H (.tup xs) (.ref a)
  | lst {H : Hp} {a : Addr} {o : Obj} {xs : List PV} {vs : List V} : H a = some (.frz o (.lst vs)) → Rps Z ρ H xs vs → Rp Z ρ H (.lst xs) (.ref a)
  | fn {H : Hp} (i : Nat) : Rp Z ρ H (.fn i) (.ref (Z.fa i))
  | cl {H : Hp} (i : Nat) : Rp Z ρ H (.cl i) (.ref (Z.ca i))
  | ob {H : Hp} {i : Nat} {a : Addr} : ρ[i]? = some a → Rp Z ρ H (.ob i) (.ref a)
  | clo {H H0 : Hp} {d : Nat} {f : Addr} {ws : List PV} {vs : List V} : CloAt (Z.la d) H H0 f vs → Kp ρ H0 ρ H → Rps Z ρ H0 ws vs → Rp Z ρ H (.clo d ws) (.ref f)
  | exn {H : Hp} {c : Nat} {a : Addr} : Z.xa = some (a, c) → Rp Z ρ H (.exn c) (.ref a)
inductive Rps (Z : Nm) (ρ : List Addr) : Hp → List PV → List V → Prop
  | nil {H : Hp} : Rps Z ρ H [] []
  | cons {H : Hp} {x : PV} {xs : List PV} {v : V} {vs : List V} : Rp Z ρ H x v → Rps Z ρ H xs vs → Rps Z ρ H (x :: xs) (v :: vs)
end

theorem pre_get {α : Type} {l l' : List α} (h : l <+: l') {i : Nat} {x : α} (e : l[i]? = some x) : l'[i]? = some x := by
  obtain ⟨t, rfl⟩ := h
  rw [List.getElem?_append_left (by
    rcases Nat.lt_or_ge i l.length with q | q
    · exact q
    · rw [List.getElem?_eq_none q] at e; cases e)]
  exact e
theorem Kp.low {ρ ρ' : List Addr} {H0 H H' : Hp} (a : Kp ρ H0 ρ H) (k : Kp ρ H ρ' H') : Kp ρ' H0 ρ' H' := ⟨fun c vs h => k.tup c vs (a.tup c vs h), fun c o u h => k.frz c o u (a.frz c o u h), List.prefix_refl _⟩
section
variable {Z : Nm} {ρ ρ' : List Addr}
mutual
theorem Rp.mono : ∀ {H H' : Hp} {x : PV} {v : V}, Kp ρ H ρ' H' → Rp Z ρ H x v → Rp Z ρ' H' x v
  | _, _, _, _, _, .non => .non
  | _, _, _, _, _, .bl b => .bl b
  | _, _, _, _, _, .int i => .int i
  | _, _, _, _, _, .str x => .str x
  | _, _, _, _, k, .tup h r => .tup (k.tup _ _ h) (Rps.mono k r)
  | _, _, _, _, k, .lst h r => .lst (k.frz _ _ _ h) (Rps.mono k r)
  | _, _, _, _, _, .fn i => .fn i
  | _, _, _, _, _, .cl i => .cl i
  | _, _, _, _, k, .ob h => .ob (pre_get k.pre h)
  | _, _, _, _, k, .clo h l r => .clo (h.kp k) (l.low k) (Rps.mono ⟨fun _ _ h => h, fun _ _ _ h => h, k.pre⟩ r)
  | _, _, _, _, _, .exn h => .exn h
theorem Rps.mono : ∀ {H H' : Hp} {xs : List PV} {vs : List V}, Kp ρ H ρ' H' → Rps Z ρ H xs vs → Rps Z ρ' H' xs vs
  | _, _, _, _, _, .nil => .nil
  | _, _, _, _, k, .cons h r => .cons (Rp.mono k h) (Rps.mono k r)
end
mutual
/-- a value without closures: tuples and lists alone are looked at -/
theorem Rp.dataM : ∀ {H H' : Hp} {x : PV} {v : V}, x.data = true → (∀ a vs, H a = some (.tup vs) → H' a = some (.tup vs)) → (∀ a o vs, H a = some (.frz o (.lst vs)) → H' a = some (.frz o (.lst vs))) → Rp Z ρ H x v → Rp Z ρ H' x v
  | _, _, _, _, _, _, _, .non => .non
  | _, _, _, _, _, _, _, .bl b => .bl b
  | _, _, _, _, _, _, _, .int i => .int i
  | _, _, _, _, _, _, _, .str x => .str x
  | _, _, _, _, d, h1, h2, .tup h r => .tup (h1 _ _ h) (Rps.dataM (by simpa [PV.data] using d) h1 h2 r)
  | _, _, _, _, d, h1, h2, .lst h r => .lst (h2 _ _ _ h) (Rps.dataM (by simpa [PV.data] using d) h1 h2 r)
  | _, _, _, _, _, _, _, .fn i => .fn i
  | _, _, _, _, _, _, _, .cl i => .cl i
  | _, _, _, _, _, _, _, .ob h => .ob h
  | _, _, _, _, d, _, _, .clo _ _ _ => by simp [PV.data] at d
  | _, _, _, _, d, _, _, .exn _ => by simp [PV.data] at d
theorem Rps.dataM : ∀ {H H' : Hp} {xs : List PV} {vs : List V}, PV.datas xs = true → (∀ a vs, H a = some (.tup vs) → H' a = some (.tup vs)) → (∀ a o vs, H a = some (.frz o (.lst vs)) → H' a = some (.frz o (.lst vs))) → Rps Z ρ H xs vs → Rps Z ρ H' xs vs
  | _, _, _, _, _, _, _, .nil => .nil
  | _, _, _, _, d, h1, h2, .cons h r => by
    simp only [PV.datas, Bool.and_eq_true] at d
    exact .cons (Rp.dataM d.1 h1 h2 h) (Rps.dataM d.2 h1 h2 r)
end
variable {H H' : Hp}
theorem Rps.length : ∀ {xs : List PV} {vs : List V}, Rps Z ρ H xs vs → xs.length = vs.length
  | _, _, .nil => rfl
  | _, _, .cons _ r => congrArg (· + 1) (Rps.length r)
theorem Rps.append : ∀ {xs ys : List PV} {vs ws : List V}, Rps Z ρ H xs vs → Rps Z ρ H ys ws → Rps Z ρ H (xs ++ ys) (vs ++ ws)
  | _, _, _, _, .nil, s => s
  | _, _, _, _, .cons h r, s => .cons h (Rps.append r s)
theorem Rps.take : ∀ {xs : List PV} {vs : List V} (n : Nat), Rps Z ρ H xs vs → Rps Z ρ H (xs.take n) (vs.take n)
  | _, _, 0, _ => .nil
  | _, _, _ + 1, .nil => .nil
  | _, _, n + 1, .cons h r => .cons h (Rps.take n r)
theorem Rps.drop : ∀ {xs : List PV} {vs : List V} (n : Nat), Rps Z ρ H xs vs → Rps Z ρ H (xs.drop n) (vs.drop n)
  | _, _, 0, r => r
  | _, _, _ + 1, .nil => .nil
  | _, _, n + 1, .cons _ r => Rps.drop n r
theorem Rps.reverse : ∀ {xs : List PV} {vs : List V}, Rps Z ρ H xs vs → Rps Z ρ H xs.reverse vs.reverse
  | _, _, .nil => .nil
  | _, _, .cons h r => by
    rw [List.reverse_cons, List.reverse_cons]
    exact Rps.append (Rps.reverse r) (.cons h .nil)
theorem Rps.get : ∀ {xs : List PV} {vs : List V} {i : Nat} {x : PV}, Rps Z ρ H xs vs → xs[i]? = some x → ∃ v, vs[i]? = some v ∧ Rp Z ρ H x v
  | _, _, _, _, .nil, e => by simp at e
  | _, _, 0, _, .cons h _, e => by simp at e; subst e; exact ⟨_, rfl, h⟩
  | _, _, i + 1, x, .cons _ r, e => by
    obtain ⟨u, h1, h2⟩ := Rps.get (i := i) (x := x) r (by simpa using e)
    exact ⟨u, by simpa using h1, h2⟩
theorem Rps.getV : ∀ {xs : List PV} {vs : List V} {i : Nat} {v : V}, Rps Z ρ H xs vs → vs[i]? = some v → ∃ x, xs[i]? = some x ∧ Rp Z ρ H x v
  | _, _, _, _, .nil, e => by simp at e
  | _, _, 0, _, .cons h _, e => by simp at e; subst e; exact ⟨_, rfl, h⟩
  | _, _, i + 1, x, .cons _ r, e => by
    obtain ⟨u, h1, h2⟩ := Rps.getV (i := i) (v := x) r (by simpa using e)
    exact ⟨u, by simpa using h1, h2⟩
theorem Rps.set : ∀ {xs : List PV} {vs : List V} (i : Nat) {x : PV} {v : V}, Rps Z ρ H xs vs → Rp Z ρ H x v → Rps Z ρ H (xs.set i x) (vs.set i v)
  | _, _, _, _, _, .nil, _ => .nil
  | _, _, 0, _, _, .cons _ r, h => .cons h r
  | _, _, i + 1, _, _, .cons q r, h => .cons q (Rps.set i r h)
theorem Rps.rep {xs : List PV} {vs : List V} (h : Rps Z ρ H xs vs) : ∀ k : Nat, Rps Z ρ H (List.replicate k xs).flatten (List.replicate k vs).flatten
  | 0 => .nil
  | k + 1 => by
    rw [List.replicate_succ, List.replicate_succ, List.flatten_cons, List.flatten_cons]
    exact Rps.append h (Rps.rep h k)
theorem Rps.nil_iff {xs : List PV} {vs : List V} (h : Rps Z ρ H xs vs) : xs = [] ↔ vs = [] := by
  cases h with
  | nil => simp
  | cons _ _ => simp
end

/-- a list of its own stands at a -/
inductive Ow (Z : Nm) (ρ : List Addr) (H : Hp) : PV → Addr → Prop
  | lst {a : Addr} {xs : List PV} {vs : List V} : H a = some (.lst vs) → Rps Z ρ H xs vs → Ow Z ρ H (.lst xs) a

/-- an attribute's values -/
inductive Rfs (Z : Nm) (ρ : List Addr) (H : Hp) : List (Str × PV) → List (Str × V) → Prop
  | nil : Rfs Z ρ H [] []
  | cons {f : Str} {x : PV} {v : V} {r : List (Str × PV)} {q : List (Str × V)} : Rp Z ρ H x v → Rfs Z ρ H r q → Rfs Z ρ H ((f, x) :: r) ((f, v) :: q)
/-- a table of code: what it tells is held still -/
def TabF (H : Hp) (P : Addr) (nm : Nat → Nat → Str) : Prop := ∃ ps : Array Value, H P = some (.tbl ps) ∧ TriplesOk ps.toList ∧ ∀ (pos : Pos) (cv : Value), codeAmong pos ps.toList = some cv →
  ∃ (c : Addr) (oc : Obj) (cvs : Array Value) (t : Tok), cv = .ref c ∧ H c = some (.frz oc (.own 0)) ∧ oc.data = .fields cvs ∧ cvs[1]? = some (.str (nm pos.line pos.col) t)
theorem TabF.keep {H H' : Hp} {P : Addr} {nm : Nat → Nat → Str} (h : ∀ b o, H b = some o → (∀ vs, o ≠ .lst vs) → H' b = some o) (t : TabF H P nm) : TabF H' P nm := by
  obtain ⟨ps, h1, h2, h3⟩ := t
  refine ⟨ps, h _ _ h1 (fun _ z => nomatch z), h2, fun pos cv hc => ?_⟩
  obtain ⟨c, oc, cvs, t, e1, e2, e3⟩ := h3 pos cv hc
  exact ⟨c, oc, cvs, t, e1, h _ _ e2 (fun _ z => nomatch z), e3⟩
theorem Rfs.mono {Z : Nm} {ρ ρ' : List Addr} {H H' : Hp} (k : Kp ρ H ρ' H') : ∀ {x : List (Str × PV)} {v : List (Str × V)}, Rfs Z ρ H x v → Rfs Z ρ' H' x v
  | _, _, .nil => .nil
  | _, _, .cons h r => .cons (h.mono k) (Rfs.mono k r)
/-- the objects of the program's classes -/
structure Obs (Z : Nm) (ρ : List Addr) (obs : List Ob) (H : Hp) : Prop where
  len : obs.length = ρ.length
  nd : ρ.Nodup
  at_ : ∀ (n : Nat) (o : Ob) (a : Addr), obs[n]? = some o → ρ[n]? = some a → ∃ dx fs, H a = some (.ins (Z.ca o.cls) dx fs) ∧ Rfs Z ρ H o.fs fs ∧ o.fs.all (·.2.data) = true
  tab : ∀ p ∈ Z.tbs, TabF H p.1 p.2

/-- a is the address of a name's own list -/
def ownA (s : Sta) (σ : Sg) (a : Addr) : Prop := ∃ (i : Nat) (v : PV), s.env[i]? = some (.own v) ∧ σ[i]? = some (some (.ref a))
structure Sim (Z : Nm) (ρ : List Addr) (s : Sta) (σ : Sg) (H : Hp) : Prop where
  len : s.env.length = σ.length
  fr : ∀ (i : Nat) (v : PV), s.env[i]? = some (.fr v) → ∃ x, σ[i]? = some (some x) ∧ Rp Z ρ H v x
  own : ∀ (i : Nat) (v : PV), s.env[i]? = some (.own v) → ∃ a, σ[i]? = some (some (.ref a)) ∧ Ow Z ρ H v a
  dis : ∀ (i j : Nat) (v w : PV) (a : Addr), s.env[i]? = some (.own v) → s.env[j]? = some (.own w) → σ[i]? = some (some (.ref a)) → σ[j]? = some (some (.ref a)) → i = j
  obs : Obs Z ρ s.obs H
/-- from one state to a later one, the names' places as they were -/
structure Nxt (Z : Nm) (ρ : List Addr) (s : Sta) (σ : Sg) (H : Hp) (ρ' : List Addr) (s' : Sta) (H' : Hp) : Prop where
  sim : Sim Z ρ' s' σ H'
  pre : ρ <+: ρ'
  new : ∀ a, a ∈ ρ' → a ∈ ρ ∨ H a = none
  fr : ∀ b o, H b = some o → ¬ ownA s σ b → b ∉ ρ → (∀ ps, o ≠ .tbl ps) → H' b = some o
  le : ∀ (i : Nat) (v : PV), s'.env[i]? = some (.own v) → ∃ w : PV, s.env[i]? = some (.own w)
  th : ∀ b, ownA s σ b → H' b ≠ none
  tb : ∀ b ps, H b = some (.tbl ps) → ∃ ps', H' b = some (.tbl ps')
section
variable {Z : Nm} {ρ ρ1 ρ2 : List Addr} {s s1 s2 : Sta} {σ : Sg} {H H1 H2 : Hp} {a b : Addr}
theorem Ow.get {v : PV} (h : Ow Z ρ H v a) : ∃ vs, H a = some (.lst vs) := by
  cases h with
  | lst h _ => exact ⟨_, h⟩
theorem Sim.ownAt (m : Sim Z ρ s σ H) (h : ownA s σ a) : ∃ vs, H a = some (.lst vs) := by
  obtain ⟨i, v, h1, h2⟩ := h
  obtain ⟨b, h3, h4⟩ := m.own i v h1
  rw [h2] at h3
  cases h3
  exact h4.get
theorem Obs.at' {obs : List Ob} (o : Obs Z ρ obs H) (h : a ∈ ρ) : ∃ C dx fs, H a = some (.ins C dx fs) := by
  obtain ⟨n, hn, rfl⟩ := List.mem_iff_getElem.mp h
  have h1 := List.getElem?_eq_getElem (show n < obs.length by rw [o.len]; exact hn)
  obtain ⟨dx, fs, e, _⟩ := o.at_ n _ _ h1 (List.getElem?_eq_getElem hn)
  exact ⟨_, dx, fs, e⟩
/-- tuples and frozen things are no names' own -/
theorem Sim.keep (m : Sim Z ρ s σ H) {o : HO} (h : H b = some o) (h1 : ∀ vs, o ≠ .lst vs) (h2 : ∀ C dx fs, o ≠ .ins C dx fs) : ¬ ownA s σ b ∧ b ∉ ρ := by
  constructor
  · intro q
    obtain ⟨vs, e⟩ := m.ownAt q
    rw [h] at e
    exact h1 vs (Option.some.inj e)
  · intro q
    obtain ⟨C, dx, fs, e⟩ := m.obs.at' q
    rw [h] at e
    exact h2 C dx fs (Option.some.inj e)
theorem Nxt.kp (m : Sim Z ρ s σ H) (n : Nxt Z ρ s σ H ρ1 s1 H1) : Kp ρ H ρ1 H1 := by
  refine ⟨fun a vs h => ?_, fun a o u h => ?_, n.pre⟩
  · obtain ⟨h1, h2⟩ := m.keep h (fun _ z => nomatch z) (fun _ _ _ z => nomatch z)
    exact n.fr _ _ h h1 h2 (fun _ z => nomatch z)
  · obtain ⟨h1, h2⟩ := m.keep h (fun _ z => nomatch z) (fun _ _ _ z => nomatch z)
    exact n.fr _ _ h h1 h2 (fun _ z => nomatch z)
theorem Nxt.own (n : Nxt Z ρ s σ H ρ1 s1 H1) (h : ownA s1 σ a) : ownA s σ a := by
  obtain ⟨i, v, h1, h2⟩ := h
  obtain ⟨w, h3⟩ := n.le i v h1
  exact ⟨i, w, h3, h2⟩
theorem Nxt.stays (n : Nxt Z ρ s σ H ρ1 s1 H1) {o : HO} (h : H b = some o) (h1 : ¬ ownA s σ b) (h2 : b ∉ ρ) : H1 b ≠ none := by
  by_cases z : ∃ ps, o = .tbl ps
  · obtain ⟨ps, rfl⟩ := z
    obtain ⟨ps', e⟩ := n.tb b ps h
    rw [e]
    exact fun z => nomatch z
  · rw [n.fr b o h h1 h2 fun ps q => z ⟨ps, q⟩]
    exact fun z => nomatch z
theorem Nxt.trans (m : Sim Z ρ s σ H) (n : Nxt Z ρ s σ H ρ1 s1 H1) (k : Nxt Z ρ1 s1 σ H1 ρ2 s2 H2) : Nxt Z ρ s σ H ρ2 s2 H2 := by
  refine ⟨k.sim, n.pre.trans k.pre, fun a h => ?_, fun b o h h1 h2 h3 => ?_, fun i v h => ?_, fun b h => ?_, fun b ps h => ?_⟩
  · rcases k.new a h with q | q
    · exact n.new a q
    · by_cases hr : a ∈ ρ
      · exact .inl hr
      · refine .inr ?_
        cases e : H a with
        | none => rfl
        | some o =>
          by_cases ho : ownA s σ a
          · exact absurd q (n.th a ho)
          · exact absurd q (n.stays e ho hr)
  · have e := n.fr b o h h1 h2 h3
    refine k.fr b o e (fun q => h1 (n.own q)) (fun q => ?_) h3
    rcases n.new b q with z | z
    · exact h2 z
    · rw [h] at z
      cases z
  · obtain ⟨w, h1⟩ := k.le i v h
    exact n.le i w h1
  · by_cases q : ownA s1 σ b
    · exact k.th b q
    · cases e : H1 b with
      | none => exact absurd e (n.th b h)
      | some o =>
        have hb : b ∉ ρ1 := fun z => by
          rcases n.new b z with y | y
          · obtain ⟨vs, e1⟩ := m.ownAt h
            obtain ⟨C, dx, fs, e2⟩ := m.obs.at' y
            rw [e1] at e2
            cases e2
          · obtain ⟨vs, e1⟩ := m.ownAt h
            rw [e1] at y
            cases y
        exact k.stays e q hb
  · obtain ⟨ps', e⟩ := n.tb b ps h
    exact k.tb b ps' e
theorem Nxt.refl (m : Sim Z ρ s σ H) : Nxt Z ρ s σ H ρ s H := by
  refine ⟨m, List.prefix_refl _, fun _ h => .inl h, fun _ _ h _ _ _ => h, fun i v h => ⟨v, h⟩, fun b h => ?_, fun _ ps h => ⟨ps, h⟩⟩
  obtain ⟨vs, e⟩ := m.ownAt h
  rw [e]
  exact fun z => nomatch z
end
section
variable {Z : Nm} {H : Hp} {a : Addr} {vs : List V} {u : HO}
theorem tab_upd (h : H a = some (.lst vs)) (t : ∀ p ∈ Z.tbs, TabF H p.1 p.2) : ∀ p ∈ Z.tbs, TabF (upd H a u) p.1 p.2 := fun p hp => (t p hp).keep fun b o e n => by
  rw [upd_ne (fun z => n vs (Option.some.inj (e.symm.trans (by rw [z]; exact h))))]
  exact e
theorem tb_upd (h : H a = some (.lst vs)) (b : Addr) (ps : Array Value) (q : H b = some (.tbl ps)) : ∃ ps', upd H a u b = some (.tbl ps') :=
  ⟨ps, by rw [upd_ne (ne_of q h (fun z => nomatch z))]; exact q⟩
end
end Qv
end
section
set_option Elab.async false
set_option linter.all false
set_option autoImplicit false
set_option maxRecDepth 100000
set_option maxHeartbeats 1000000
/-! Q3: readings: what the core language says of a piece of syntax, as HandS asks it. -/
namespace Qv
open PySem PySem.Spec PyProof.Rows L2

/-- a list of ours is frozen: from now on it is known to its object -/
theorem inv_frz {X : Cx} {pins : List (Addr × Obj)} {σ : Sg} {H : Hp} {s : Shared} {a : Addr} {vs : List V} (I : Inv X pins σ H s) (h : H a = some (.lst vs)) :
    ∃ o, Inv X pins σ (upd H a (.frz o (.lst vs))) s := by
  obtain ⟨z, its, n, r, e⟩ := (show ObjOk X.prog X.w H s.heap a (.lst vs) from I.hok a _ h)
  refine ⟨{ cls := .type "list", data := .seq its.toArray n }, ?_⟩
  have ne : ∀ b o, H b = some o → (∀ xs, o ≠ .lst xs) → b ≠ a := fun b o q w z => by
    rw [z, h] at q
    exact w vs (Option.some.inj q).symm
  have nn : ∀ b, H b = none → b ≠ a := fun b q z => by
    rw [z, h] at q
    cases q
  refine ⟨I.ok, I.os, I.bare, ⟨I.base.keep, I.base.slot, fun b o q n hx => ?_, I.base.there, fun b xs q => ?_, fun b o u q => ?_, fun b ps q => ?_⟩, I.loc, I.cell, ?_, fun x c q => ?_, fun p hp => ?_, fun b u q => ?_, I.len⟩
  · have := I.base.free b o q n hx
    rw [upd_ne (nn b this)]
    exact this
  · have := I.base.tups b xs q
    rw [upd_ne (ne b _ this fun _ z => nomatch z)]
    exact this
  · have := I.base.frzs b o u q
    rw [upd_ne (ne b _ this fun _ z => nomatch z)]
    exact this
  · obtain ⟨m, this⟩ := I.base.tbls b ps q
    exact ⟨m, by rw [upd_ne (ne b _ this fun _ z => nomatch z)]; exact this⟩
  · rw [upd_ne (nn _ I.free)]
    exact I.free
  · rw [upd_ne (nn _ (I.freeC x c q))]
    exact I.freeC x c q
  · obtain ⟨h1, h2, h3, h4, h5⟩ := I.pin p hp
    exact ⟨h1, by rw [upd_ne (nn _ h2)]; exact h2, h3, h4, h5⟩
  · by_cases hb : b = a
    · subst hb
      rw [upd_same] at q
      cases q
      exact ⟨e, z, its, n, r, e⟩
    · rw [upd_ne hb] at q
      refine (I.hok b u q).stay (fun c v _ q => q) (fun c q => ?_) fun c xs q => ?_
      · rw [upd_ne (ne c _ q fun _ z => nomatch z)]
        exact q
      · rw [upd_ne (ne c _ q fun _ z => nomatch z)]
        exact q

/-! ### relations -/
/-- how what the core gives stands in the heap; the first heap is that at the start -/
structure Rl (α ξ : Type) where
  p : Hp → List Addr → Sta → Hp → α → ξ → Prop
  ant : ∀ {H0 H1 : Hp} {ρ : List Addr} {s : Sta} {H : Hp} {a : α} {x : ξ}, (∀ b, H1 b = none → H0 b = none) → p H1 ρ s H a x → p H0 ρ s H a x
def rRV (Z : Nm) (σ : Sg) : Rl RV V where
  p H0 ρ s H r x := match r with
    | .fr v => Rp Z ρ H v x
    | .own v => ∃ a, x = .ref a ∧ Ow Z ρ H v a ∧ ¬ ownA s σ a ∧ a ∉ ρ ∧ H0 a = none
    | .sl i => σ[i]? = some (some x)
  ant := fun {H0 H1 ρ s H r x} k h => by
    cases r with
    | fr v => exact h
    | own v =>
      obtain ⟨a, h1, h2, h3, h4, h5⟩ := h
      exact ⟨a, h1, h2, h3, h4, k _ h5⟩
    | sl i => exact h
def rPV (Z : Nm) : Rl PV V := ⟨fun _ ρ _ H v x => Rp Z ρ H v x, fun _ h => h⟩
def rPs (Z : Nm) : Rl (List PV) (List V) := ⟨fun _ ρ _ H v x => Rps Z ρ H v x, fun _ h => h⟩
def rEq (α : Type) : Rl α α := ⟨fun _ _ _ _ v x => v = x, fun _ h => h⟩
/-- to be read: frozen, or a list of its own -/
def Rd1 (Z : Nm) (ρ : List Addr) (H : Hp) (v : PV) (x : V) : Prop := Rp Z ρ H v x ∨ ∃ a, x = .ref a ∧ Ow Z ρ H v a
inductive Rds (Z : Nm) (ρ : List Addr) (H : Hp) : List PV → List V → Prop
  | nil : Rds Z ρ H [] []
  | cons {x : PV} {xs : List PV} {v : V} {vs : List V} : Rd1 Z ρ H x v → Rds Z ρ H xs vs → Rds Z ρ H (x :: xs) (v :: vs)
def rRd (Z : Nm) : Rl (List PV) (List V) := ⟨fun _ ρ _ H v x => Rds Z ρ H v x, fun _ h => h⟩

theorem Nxt.none {Z : Nm} {ρ ρ1 : List Addr} {s s1 : Sta} {σ : Sg} {H H1 : Hp} (m : Sim Z ρ s σ H) (n : Nxt Z ρ s σ H ρ1 s1 H1) (b : Addr) (h : H1 b = none) : H b = none := by
  cases e : H b with
  | none => rfl
  | some o =>
    by_cases h1 : ownA s σ b
    · exact absurd h (n.th b h1)
    · by_cases h2 : b ∈ ρ
      · obtain ⟨C, dx, fs, q⟩ := n.sim.obs.at' (n.pre.subset h2)
        rw [h] at q
        cases q
      · exact absurd h (n.stays e h1 h2)

/-! ### what is to come -/
def Pst {α ξ : Type} (Z : Nm) (W : WX) (rel : Rl α ξ) (ρ : List Addr) (s : Sta) (σ : Sg) (H : Hp) (r : R α) (Q : ξ → Hp → Prop) : Prop := match r with
  | .ok a s' => ∀ ρ' H' x, Nxt Z ρ s σ H ρ' s' H' → rel.p H ρ' s' H' a x → Q x H'
  | .exc c s' => ∀ ρ' H', Nxt Z ρ s σ H ρ' s' H' → W (.ref (Z.ca c)) none σ H'
  | .bad => False
section
variable {α β ξ ζ : Type} {Z : Nm} {W : WX} {ρ ρ1 : List Addr} {s s1 : Sta} {σ : Sg} {H H1 : Hp} {rel : Rl α ξ} {rel2 : Rl β ζ}
theorem Pst.later {r : R α} {Q : ξ → Hp → Prop} (m : Sim Z ρ s σ H) (n : Nxt Z ρ s σ H ρ1 s1 H1) (h : Pst Z W rel ρ s σ H r Q) : Pst Z W rel ρ1 s1 σ H1 r Q := by
  cases r with
  | ok a s' => exact fun ρ' H' x k q => h ρ' H' x (n.trans m k) (rel.ant (n.none m) q)
  | exc c s' => exact fun ρ' H' k => h ρ' H' (n.trans m k)
  | bad => exact h
/-- first a, then what it leads to -/
theorem Pst.bind {r : R α} {f : α → M β} {Q : ζ → Hp → Prop} {Qm : ξ → Hp → Prop} (m : Sim Z ρ s σ H) (h : Pst Z W rel2 ρ s σ H (r.bind f) Q)
    (k : ∀ ρ1 s1 H1 a x, r = .ok a s1 → Nxt Z ρ s σ H ρ1 s1 H1 → rel.p H ρ1 s1 H1 a x → Pst Z W rel2 ρ s σ H (f a s1) Q → Qm x H1) : Pst Z W rel ρ s σ H r Qm := by
  cases r with
  | ok a s' => exact fun ρ' H' x n q => k ρ' s' H' a x rfl n q h
  | exc c s' => exact h
  | bad => exact h
theorem Pst.imp {r : R α} {Q Q' : ξ → Hp → Prop} (h : Pst Z W rel ρ s σ H r Q) (k : ∀ x H', Q x H' → Q' x H') : Pst Z W rel ρ s σ H r Q' := by
  cases r with
  | ok a s' => exact fun ρ' H' x n q => k _ _ (h ρ' H' x n q)
  | exc c s' => exact h
  | bad => exact h
/-- a value at once -/
theorem Pst.ok0 {a : α} {Q : ξ → Hp → Prop} (m : Sim Z ρ s σ H) (h : Pst Z W rel ρ s σ H (.ok a s) Q) {x : ξ} (q : rel.p H ρ s H a x) : Q x H := h ρ H x (.refl m) q
end

/-! ### readings -/
section
variable (Z : Nm) (W : WX) (F : FT)
def rd {α ξ : Type} (rel : Sg → Rl α ξ) (m : M α) : Sg → Hp → (ξ → Hp → Prop) → Prop := fun σ H Q => ∃ ρ s, Sim Z ρ s σ H ∧ Pst Z W (rel σ) ρ s σ H (m s) Q
def rdE (c : E) : TE := rd Z W (rRV Z) (dE F c)
def rdF (c : E) : TE := rd Z W (fun _ => rPV Z) (dE F c >>= frz)
def rdB (c : E) : TT := rd Z W (fun _ => rEq Bool) (dE F c >>= rvB)
def rdA (c : E) : TA := rd Z W (fun _ => rPs Z) (dA F c)
def rdD (c : E) : TA := rd Z W (fun _ => rRd Z) (dD F c)
def rdO (c : E) : TO := rd Z W (fun _ => rEq (Option Int)) (partO c (dE F c))
end

theorem _root_.L2.PE.impQ {X : Cx} {e : Expr} {t t' : TE} (h : PE X e t) (k : ∀ σ H Q, t' σ H Q → t σ H Q) : PE X e t' := ⟨fun pins s σ H Q I q => h.run pins s σ H Q I (k σ H Q q)⟩
theorem _root_.L2.PT.impQ {X : Cx} {e : Expr} {t t' : TT} (h : PT X e t) (k : ∀ σ H Q, t' σ H Q → t σ H Q) : PT X e t' := ⟨fun pins s σ H Q I q => h.run pins s σ H Q I (k σ H Q q)⟩
theorem _root_.L2.PW.impQ {X : Cx} {e : Expr} {t t' : TT} (h : PW X e t) (k : ∀ σ H Q, t' σ H Q → t σ H Q) : PW X e t' := ⟨fun wh pins s σ H Q I q => h.run wh pins s σ H Q I (k σ H Q q)⟩
theorem _root_.L2.PA.impQ {X : Cx} {e : List Expr} {t t' : TA} (h : PA X e t) (k : ∀ σ H Q, t' σ H Q → t σ H Q) : PA X e t' := ⟨fun pos pins s σ H Q I q => h.run pos pins s σ H Q I (k σ H Q q)⟩
theorem _root_.L2.PO.impQ {X : Cx} {e : Option Expr} {t t' : TO} (h : PO X e t) (k : ∀ σ H Q, t' σ H Q → t σ H Q) : PO X e t' := ⟨fun pins s σ H Q I q => h.run pins s σ H Q I (k σ H Q q)⟩

section
variable {Z : Nm} {W : WX} {F : FT} {ρ ρ1 : List Addr} {s s1 : Sta} {σ : Sg} {H H0 H1 : Hp}
theorem Ow.mono {v : PV} {a : Addr} (h : Ow Z ρ H v a) (k : Kp ρ H ρ1 H1) (e : H1 a = H a) : Ow Z ρ1 H1 v a := by
  cases h with
  | lst h r => exact .lst (by rw [e]; exact h) (r.mono k)
/-- what an operand is, behind what came after it -/
theorem rRV_step {r : RV} {x : V} (m : Sim Z ρ s σ H) (n : Nxt Z ρ s σ H ρ1 s1 H1) (h : (rRV Z σ).p H0 ρ s H r x) : (rRV Z σ).p H0 ρ1 s1 H1 r x := by
  cases r with
  | fr v => exact Rp.mono (n.kp m) h
  | own v =>
    obtain ⟨a, h1, h2, h3, h4, h5⟩ := h
    obtain ⟨vs, e⟩ := h2.get
    have e1 := n.fr a _ e h3 h4 (fun _ z => nomatch z)
    refine ⟨a, h1, h2.mono (n.kp m) (by rw [e1, e]), fun q => h3 (n.own q), fun q => ?_, h5⟩
    rcases n.new a q with z | z
    · exact h4 z
    · rw [e] at z
      cases z
  | sl i => exact h
theorem Rd1.mono {v : PV} {x : V} (m : Sim Z ρ s σ H) (n : Nxt Z ρ s σ H ρ1 s1 H1) (h : Rp Z ρ H v x) : Rd1 Z ρ1 H1 v x := .inl (h.mono (n.kp m))
/-- read -/
theorem rRV_deref {r : RV} {x : V} {v : PV} {s' : Sta} (m : Sim Z ρ s σ H) (h : (rRV Z σ).p H0 ρ s H r x) (d : deref r s = .ok v s') : s' = s ∧ Rd1 Z ρ H v x := by
  cases r with
  | fr w => cases d; exact ⟨rfl, .inl h⟩
  | own w =>
    cases d
    obtain ⟨a, h1, h2, _⟩ := h
    exact ⟨rfl, .inr ⟨a, h1, h2⟩⟩
  | sl i =>
    have h : σ[i]? = some (some x) := h
    have get : ∀ y, slotAt i s = y → y ≠ .no → s.env[i]? = some y := fun y e ne => by
      unfold slotAt at e
      rw [List.getD_eq_getElem?_getD] at e
      cases q : s.env[i]? with
      | none => rw [q] at e; exact absurd e.symm ne
      | some z => rw [q] at e; exact congrArg some e
    unfold deref at d
    dsimp only at d
    split at d
    · rename_i w e
      cases d
      obtain ⟨y, e1, e2⟩ := m.fr i _ (get _ e (fun z => nomatch z))
      rw [h] at e1
      cases e1
      exact ⟨rfl, .inl e2⟩
    · rename_i w e
      cases d
      obtain ⟨a, e1, e2⟩ := m.own i _ (get _ e (fun z => nomatch z))
      rw [h] at e1
      cases e1
      exact ⟨rfl, .inr ⟨a, rfl, e2⟩⟩
    · cases d
theorem slot_get {i : Nat} {y : Slot} (e : slotAt i s = y) (ne : y ≠ .no) : s.env[i]? = some y := by
  unfold slotAt at e
  rw [List.getD_eq_getElem?_getD] at e
  cases q : s.env[i]? with
  | none => rw [q] at e; exact absurd e.symm ne
  | some z => rw [q] at e; exact congrArg some e
end

/-- freezing a name's own list, in the core and in the heap -/
theorem Nxt.frzSl {Z : Nm} {ρ : List Addr} {s : Sta} {σ : Sg} {H : Hp} {i : Nat} {xs : List PV} {a : Addr} {vs : List V} {o : Obj} (m : Sim Z ρ s σ H) (e : s.env[i]? = some (.own (.lst xs))) (ea : σ[i]? = some (some (.ref a)))
    (h : H a = some (.lst vs)) (r : Rps Z ρ H xs vs) : Nxt Z ρ s σ H ρ (s.put i (.fr (.lst xs))) (upd H a (.frz o (.lst vs))) ∧ Rp Z ρ (upd H a (.frz o (.lst vs))) (.lst xs) (.ref a) := by
  have own_a : ownA s σ a := ⟨i, _, e, ea⟩
  have nr : a ∉ ρ := fun q => by
    obtain ⟨C, dx, fs, q⟩ := m.obs.at' q
    rw [h] at q
    cases q
  have kp : Kp ρ H ρ (upd H a (.frz o (.lst vs))) := by
    refine ⟨fun b ws q => ?_, fun b o' u q => ?_, List.prefix_refl _⟩
    · rw [upd_ne (ne_of q h (fun z => nomatch z))]; exact q
    · rw [upd_ne (ne_of q h (fun z => nomatch z))]; exact q
  have rp : Rp Z ρ (upd H a (.frz o (.lst vs))) (.lst xs) (.ref a) := .lst upd_same (r.mono kp)
  have ilt : i < s.env.length := (List.getElem?_eq_some_iff.mp e).1
  have env_ne : ∀ j, j ≠ i → (s.env.set i (.fr (.lst xs)))[j]? = s.env[j]? := fun j hj => List.getElem?_set_ne (Ne.symm hj)
  have env_eq : (s.env.set i (Slot.fr (.lst xs)))[i]? = some (.fr (.lst xs)) := List.getElem?_set_self ilt
  refine ⟨⟨⟨?_, fun j v q => ?_, fun j v q => ?_, fun j k v w b q1 q2 q3 q4 => ?_, ⟨m.obs.len, m.obs.nd, fun n ob b q1 q2 => ?_, tab_upd h m.obs.tab⟩⟩, List.prefix_refl _, fun _ q => .inl q, fun b ob q h1 _ _ => ?_, fun j v q => ?_, fun b q => ?_, tb_upd h⟩, rp⟩
  · show (s.env.set i _).length = _
    rw [List.length_set]
    exact m.len
  · by_cases hj : j = i
    · subst hj
      have q : (s.env.set j (Slot.fr (.lst xs)))[j]? = some (.fr v) := q
      rw [env_eq] at q
      cases q
      exact ⟨_, ea, rp⟩
    · have q : (s.env.set i (Slot.fr (.lst xs)))[j]? = some (.fr v) := q
      rw [env_ne j hj] at q
      obtain ⟨x, e1, e2⟩ := m.fr j v q
      exact ⟨x, e1, e2.mono kp⟩
  · have q : (s.env.set i (Slot.fr (.lst xs)))[j]? = some (.own v) := q
    by_cases hj : j = i
    · subst hj
      rw [env_eq] at q
      cases q
    · rw [env_ne j hj] at q
      obtain ⟨b, e1, e2⟩ := m.own j v q
      have hb : b ≠ a := fun z => by
        subst z
        exact hj (m.dis j i v _ b q e e1 ea)
      exact ⟨b, e1, e2.mono kp (upd_ne hb)⟩
  · have q1 : (s.env.set i (Slot.fr (.lst xs)))[j]? = some (.own v) := q1
    have q2 : (s.env.set i (Slot.fr (.lst xs)))[k]? = some (.own w) := q2
    have hj : j ≠ i := fun z => by rw [z, env_eq] at q1; cases q1
    have hk : k ≠ i := fun z => by rw [z, env_eq] at q2; cases q2
    rw [env_ne j hj] at q1
    rw [env_ne k hk] at q2
    exact m.dis j k v w b q1 q2 q3 q4
  · obtain ⟨dx, fs, e1, e2, e3⟩ := m.obs.at_ n ob b q1 q2
    exact ⟨dx, fs, by rw [upd_ne (ne_of e1 h (fun z => nomatch z))]; exact e1, e2.mono kp, e3⟩
  · rw [upd_ne (fun z => h1 (by rw [z]; exact own_a))]
    exact q
  · have q : (s.env.set i (Slot.fr (.lst xs)))[j]? = some (.own v) := q
    by_cases hj : j = i
    · subst hj
      rw [env_eq] at q
      cases q
    · rw [env_ne j hj] at q
      exact ⟨v, q⟩
  · by_cases hb : b = a
    · rw [hb, upd_same]
      exact fun z => nomatch z
    · rw [upd_ne hb]
      obtain ⟨ws, q⟩ := m.ownAt q
      rw [q]
      exact fun z => nomatch z
/-- freezing a new list of nobody's -/
theorem Nxt.frzOwn {Z : Nm} {ρ : List Addr} {s : Sta} {σ : Sg} {H : Hp} {xs : List PV} {a : Addr} {vs : List V} {o : Obj} (m : Sim Z ρ s σ H) (na : ¬ ownA s σ a) (nr : a ∉ ρ)
    (h : H a = some (.lst vs)) (r : Rps Z ρ H xs vs) : Sim Z ρ s σ (upd H a (.frz o (.lst vs))) ∧ Rp Z ρ (upd H a (.frz o (.lst vs))) (.lst xs) (.ref a) := by
  have kp : Kp ρ H ρ (upd H a (.frz o (.lst vs))) := by
    refine ⟨fun b ws q => ?_, fun b o' u q => ?_, List.prefix_refl _⟩
    · rw [upd_ne (ne_of q h (fun z => nomatch z))]; exact q
    · rw [upd_ne (ne_of q h (fun z => nomatch z))]; exact q
  refine ⟨⟨m.len, fun j v q => ?_, fun j v q => ?_, m.dis, ⟨m.obs.len, m.obs.nd, fun n ob b q1 q2 => ?_, tab_upd h m.obs.tab⟩⟩, .lst upd_same (r.mono kp)⟩
  · obtain ⟨x, e1, e2⟩ := m.fr j v q
    exact ⟨x, e1, e2.mono kp⟩
  · obtain ⟨b, e1, e2⟩ := m.own j v q
    exact ⟨b, e1, e2.mono kp (upd_ne fun z => na ⟨j, v, q, by rw [← z]; exact e1⟩)⟩
  · obtain ⟨dx, fs, e1, e2, e3⟩ := m.obs.at_ n ob b q1 q2
    exact ⟨dx, fs, by rw [upd_ne (ne_of e1 h (fun z => nomatch z))]; exact e1, e2.mono kp, e3⟩
/-- an expression whose value is then frozen -/
theorem _root_.L2.PE.frz {X : Cx} {e : Expr} {Z : Nm} {W : WX} {F : FT} {c : E} (h : PE X e (rdE Z W F c)) : PE X e (rdF Z W F c) := by
  refine ⟨fun pins s σ H Q I hq => ?_⟩
  refine thn (h.run pins s σ H (fun x H1 => Q x H1 ∨ ∃ a vs, H1 a = some (.lst vs) ∧ ∀ o, Q x (upd H1 a (.frz o (.lst vs)))) I ?_) fun u s1 ⟨x, H1, I1, r, q⟩ => ?_
  · obtain ⟨ρ, st, m, hp⟩ := hq
    refine ⟨ρ, st, m, ?_⟩
    refine Pst.bind (rel2 := rPV Z) (f := Qv.frz) m hp fun ρ1 s1 H1 r x e n k q => ?_
    cases r with
    | fr v => exact .inl (q ρ1 H1 x n k)
    | own v =>
      obtain ⟨a, rfl, hw, h3, h4, h5⟩ := k
      cases hw with
      | @lst _ xs vs ha hr =>
        refine .inr ⟨a, vs, ha, fun o => ?_⟩
        obtain ⟨m1, rp⟩ := Nxt.frzOwn (o := o) n.sim h3 h4 ha hr
        have up : ∀ b, b ≠ a → upd H1 a (.frz o (.lst vs)) b = H1 b := fun b hb => upd_ne hb
        have na : ∀ b, H b ≠ none → b ≠ a := fun b hb z => hb (by rw [z]; exact h5)
        refine q ρ1 _ (.ref a) ⟨m1, n.pre, n.new, fun b ob q1 q2 q3 q4 => ?_, n.le, fun b q => ?_, fun b ps q => ?_⟩ rp
        · rw [up b (na b (by rw [q1]; exact fun z => nomatch z))]
          exact n.fr b ob q1 q2 q3 q4
        · obtain ⟨ws, e⟩ := m.ownAt q
          rw [up b (na b (by rw [e]; exact fun z => nomatch z))]
          exact n.th b q
        · obtain ⟨ps', e⟩ := n.tb b ps q
          exact tb_upd ha b ps' e
    | sl i =>
      have q := Pst.later m n q
      have k : σ[i]? = some (some x) := k
      have q : Pst Z W (rPV Z) ρ1 s1 σ H1 (match slotAt i s1 with
        | .fr v => R.ok v s1
        | .own v => .ok v (s1.put i (.fr v))
        | .no => .bad) Q := q
      cases e : slotAt i s1 with
      | no => rw [e] at q; exact q.elim
      | fr v =>
        rw [e] at q
        obtain ⟨y, e1, e2⟩ := n.sim.fr i v (slot_get e (fun z => nomatch z))
        rw [k] at e1
        cases e1
        exact .inl (Pst.ok0 n.sim q e2)
      | own v =>
        rw [e] at q
        have e' := slot_get e (fun z => nomatch z)
        obtain ⟨a, e1, e2⟩ := n.sim.own i v e'
        rw [k] at e1
        cases e1
        cases e2 with
        | @lst _ xs vs ha hr =>
          refine .inr ⟨a, vs, ha, fun o => ?_⟩
          obtain ⟨n1, rp⟩ := Nxt.frzSl (o := o) n.sim e' k ha hr
          exact q ρ1 _ (.ref a) n1 rp
  · rcases q with q | ⟨a, vs, ha, q⟩
    · exact ⟨x, H1, I1, r, q⟩
    · obtain ⟨o, I2⟩ := inv_frz I1 ha
      exact ⟨x, _, I2, r, q o⟩
end Qv
end
section
set_option Elab.async false
set_option linter.all false
set_option autoImplicit false
set_option maxRecDepth 100000
set_option maxHeartbeats 1000000
/-! Q4: operations by values: the core's and the machine's. -/
namespace Qv
open PySem PySem.Spec PyProof.Rows L2

/-- what an operation gives, in a heap that has grown -/
def ResRel (Z : Nm) (ρ : List Addr) (H H' : Hp) (r : RV) (z : V) : Prop := match r with
  | .fr w => Rp Z ρ H' w z
  | .own w => ∃ a, z = .ref a ∧ Ow Z ρ H' w a ∧ H a = none
  | .sl _ => False
def Res (Z : Nm) (ρ : List Addr) (H : Hp) (r : RV) (Q : VK) : Prop := ∀ H' z, Same H H' → ResRel Z ρ H H' r z → Q z H'
section
variable {Z : Nm} {ρ : List Addr} {H H1 : Hp} {Q : VK}
theorem kp_same (h : Same H H1) : Kp ρ H ρ H1 := ⟨fun _ _ q => h _ _ q, fun _ _ _ q => h _ _ q, List.prefix_refl _⟩
theorem same_upd {p : Addr} {o : HO} (h : H p = none) : Same H (upd H p o) := fun b x e => by
  rw [upd_ne (ne_of_none e h)]
  exact e
theorem Res.fr0 {w : PV} {z : V} (h : Res Z ρ H (.fr w) Q) (r : Rp Z ρ H w z) : Q z H := h H z (.refl H) r
theorem Res.newT {xs : List PV} {vs : List V} {p : Addr} (h : Res Z ρ H (.fr (.tup xs)) Q) (hp : H p = none) (r : Rps Z ρ H xs vs) : Q (.ref p) (upd H p (.tup vs)) :=
  h _ _ (same_upd hp) (Rp.tup upd_same (r.mono (kp_same (same_upd hp))))
theorem Res.newL {xs : List PV} {vs : List V} {p : Addr} (h : Res Z ρ H (.own (.lst xs)) Q) (hp : H p = none) (r : Rps Z ρ H xs vs) : Q (.ref p) (upd H p (.lst vs)) :=
  h _ _ (same_upd hp) ⟨p, rfl, .lst upd_same (r.mono (kp_same (same_upd hp))), hp⟩
theorem Rd1.lst {xs : List PV} {x : V} (h : Rd1 Z ρ H (.lst xs) x) : ∃ a vs, x = .ref a ∧ L2.Rd H a (.lst vs) ∧ Rps Z ρ H xs vs := by
  rcases h with h | ⟨a, rfl, h⟩
  · cases h with
    | lst h r => exact ⟨_, _, rfl, .inr ⟨_, h⟩, r⟩
  · cases h with
    | lst h r => exact ⟨_, _, rfl, .inl h, r⟩
theorem Rd1.tup {xs : List PV} {x : V} (h : Rd1 Z ρ H (.tup xs) x) : ∃ a vs, x = .ref a ∧ H a = some (.tup vs) ∧ Rps Z ρ H xs vs := by
  rcases h with h | ⟨a, rfl, h⟩
  · cases h with
    | tup h r => exact ⟨_, _, rfl, h, r⟩
  · cases h
theorem Rd1.int {i : Int} {x : V} (h : Rd1 Z ρ H (.int i) x) : x = .int i := by
  rcases h with h | ⟨a, rfl, h⟩
  · cases h; rfl
  · cases h
theorem Rd1.bl {b : Bool} {x : V} (h : Rd1 Z ρ H (.bl b) x) : x = .bl b := by
  rcases h with h | ⟨a, rfl, h⟩
  · cases h; rfl
  · cases h
theorem Rd1.str {b : Str} {x : V} (h : Rd1 Z ρ H (.str b) x) : x = .str b := by
  rcases h with h | ⟨a, rfl, h⟩
  · cases h; rfl
  · cases h
theorem Rd1.non {x : V} (h : Rd1 Z ρ H .non x) : x = .non := by
  rcases h with h | ⟨a, rfl, h⟩
  · cases h; rfl
  · cases h
mutual
theorem Rp.dp (K : PySem.W.Frag) : ∀ {H : Hp} {v : PV} {x : V}, Rp Z ρ H v x → (toD v).canLay0 = true → Dp K H x (toD v)
  | _, _, _, .non, _ => .non
  | _, _, _, .bl b, _ => .bl b
  | _, _, _, .int i, _ => .int i
  | _, _, _, .str x, _ => .str x
  | _, _, _, .tup h r, c => by
    refine .tup (.inl (.inl h)) (Rps.dp K r ?_)
    simpa [toD, PyData.canLay0] using c
  | _, _, _, .lst h r, c => by
    refine .lst (.inl (.inr ⟨_, h⟩)) (Rps.dp K r ?_)
    simpa [toD, PyData.canLay0] using c
  | _, _, _, .fn i, c => by simp [toD, PyData.canLay0] at c
  | _, _, _, .cl i, c => by simp [toD, PyData.canLay0] at c
  | _, _, _, .ob h, c => by simp [toD, PyData.canLay0] at c
  | _, _, _, .clo _ _ _, c => by simp [toD, PyData.canLay0] at c
  | _, _, _, .exn _, c => by simp [toD, PyData.canLay0] at c
theorem Rps.dp (K : PySem.W.Frag) : ∀ {H : Hp} {v : List PV} {x : List V}, Rps Z ρ H v x → PyData.canLayAll0 (toDs v) = true → DpAll K H x (toDs v)
  | _, _, _, .nil, _ => .nil
  | _, _, _, .cons h r, c => by
    simp only [toDs, PyData.canLayAll0, Bool.and_eq_true] at c
    exact .cons (Rp.dp K h c.1) (Rps.dp K r c.2)
end
theorem Rd1.dp (K : PySem.W.Frag) {v : PV} {x : V} (h : Rd1 Z ρ H v x) (c : SeqAt.shaped (toD v) = true) : Dp K H x (toD v) := by
  have c0 := SeqAt.canLay_of_shaped c
  rcases h with h | ⟨a, rfl, h⟩
  · exact h.dp K c0
  · cases h with
    | lst h r =>
      refine .lst (.inl (.inl h)) (r.dp K ?_)
      simpa [toD, PyData.canLay0] using c0
theorem lenOk_line {n : Nat} (h : lenOk n = true) : n < sizeLine := by
  have h := of_decide_eq_true h
  rw [sizeLine_eq]
  omega
end

/-! ### two operands -/
def pyOp : Bop → Operator
  | .add => .Add | .sub => .Sub | .mul => .Mult | .fdv => .FloorDiv | .mod => .Mod | .pow => .Pow
def r2 (Z : Nm) (g : PV → PV → Option RV) : R2 := fun x y H Q => ∃ ρ u v r, Rd1 Z ρ H u x ∧ Rd1 Z ρ H v y ∧ g u v = some r ∧ Res Z ρ H r Q
section
variable {X : Cx} {pins : List (Addr × Obj)} {σ : Sg} {H : Hp} {s : Shared}
theorem rd_list {P : Program} {w : World} {h : Heap} {a : Addr} {xs : List V} (ok : HOk P w H h) (r : L2.Rd H a (.lst xs)) : xs.length ≤ sizeLine ∧ ∃ (its : List Value) (n : Nat), Vals xs its ∧ xs.length = its.length ∧ h.get? a = some { cls := .type "list", data := .seq its.toArray n } := by
  obtain ⟨z, its, n, r, e⟩ := (show ObjOk P w H h a (.lst xs) from r.ok ok)
  exact ⟨z, its, n, r, r.length, e⟩
def rCatL : R2 := fun x y H Q => ∃ l b xs zs, x = .ref l ∧ y = .ref b ∧ L2.Rd H l (.lst xs) ∧ L2.Rd H b (.lst zs) ∧ xs.length + zs.length ≤ sizeLine ∧ ∀ p, H p = none → Q (.ref p) (upd H p (.lst (xs ++ zs)))
theorem op_catL : OpR X (binaryOp .Add) rCatL := by
  intro pins s σ H x y v u Q I rx ry h
  obtain ⟨l, b, xs, zs, rfl, rfl, hH, hB, hz, q⟩ := h
  cases rx
  cases ry
  obtain ⟨z, its, n, r, hl, e⟩ := rd_list I.hok hH
  obtain ⟨z2, its2, n2, r2, hl2, e2⟩ := rd_list I.hok hB
  refine PySem.P.add_list e e2 ?_ (by rw [List.size_toArray, List.size_toArray]; omega)
  have ea : its.toArray ++ its2.toArray = (its ++ its2).toArray := by simp
  rw [ea]
  exact ⟨.ref _, _, I.lnew (t' := s.toks) (r.append r2) (by rw [List.length_append]; omega), rfl, q _ I.fresh⟩
def rRepL : R2 := fun x y H Q => ∃ l k xs, x = .ref l ∧ y = .int k ∧ L2.Rd H l (.lst xs) ∧ -(2 ^ 63) ≤ k ∧ k < 2 ^ 63 ∧ xs.length * k.toNat ≤ sizeLine ∧
  ∀ p, H p = none → Q (.ref p) (upd H p (.lst (List.replicate k.toNat xs).flatten))
theorem op_repL : OpR X (binaryOp .Mult) rRepL := by
  intro pins s σ H x y v u Q I rx ry h
  obtain ⟨l, k, xs, rfl, rfl, hH, h1, h2, hz, q⟩ := h
  cases rx
  obtain ⟨t, rfl⟩ := ry
  obtain ⟨z, its, n, r, hl, e⟩ := rd_list I.hok hH
  have hlen : its.toArray.size * k.toNat ≤ sizeLine := by rw [List.size_toArray, ← hl]; exact hz
  have hcap : ¬ its.toArray.size * k.toNat > (2 ^ 63 - 1) / 8 := by
    have : (sizeLine : Nat) ≤ (2 ^ 63 - 1) / 8 := by decide
    omega
  have hfit : ¬ (!Builtin.List.listFitsIndex k) = true := by
    rw [fitsIndex_both h1 h2]
    exact Bool.false_ne_true
  have hlong : ¬ Builtin.List.listTooLong (its.toArray.size * k.toNat) = true := by
    rw [notLongL hlen]
    exact Bool.false_ne_true
  have hnew : List.foldl (fun x1 x2 => x1 ++ x2) #[] (List.replicate (if its.toArray.isEmpty = true then 0 else k.toNat) its.toArray) = (List.replicate k.toNat its).flatten.toArray := by
    have f0 : ∀ m : Nat, List.foldl (fun x1 x2 => x1 ++ x2) #[] (List.replicate m its.toArray) = (List.replicate m its).flatten.toArray := fun m => by
      have := foldl_rep its m []
      rw [List.nil_append] at this
      exact this
    rw [f0]
    cases its with
    | nil => simp
    | cons a r' => rw [if_neg (by simp)]
  refine wpAny_binaryOp_repeat_ref (T := "list") (U := "int") (by decide) ⟨_, e, rfl⟩ (fun s' => typeIs_int s' k t) noFill_list_mul F.fills_int_mul F.slot_int_rmul repeat_list F.slot_int_index.lookup
    (call_meets F.slot_int_rmul (typeIs_int s k t) F.entry_int_rmul (F.args_int_rmul_2 _ _) (int___rmul___int_list k t l its.toArray n)
      ⟨e, rfl, ⟨_, e, rfl⟩, call_meets F.slot_list_mul ⟨_, e, rfl⟩ F.entry_list_mul (F.args_list_mul_2 _ _) (AutoListH.list___mul___list_int_3 l its.toArray n k t hfit hcap hlong) ⟨e, ?_⟩⟩)
  rw [hnew]
  exact ⟨.ref _, _, I.lnew (t' := s.toks) (r.rep k.toNat) (by rw [PyProof.Rows.lm_len_rep_flat, Nat.mul_comm]; exact hz), rfl, q _ I.fresh⟩
end
theorem tuple_mul1 (l : Addr) (items : Array Value) (n : Nat) (dd : Option Addr) (sl : Array (Option Value)) (x : Int) (u : Tok) (c0 : (decide (x < -(2 ^ 63)) || decide (x ≥ 2 ^ 63)) = false) (c1 : (items.isEmpty || x == 1) = true) :
    Meets (Builtin.«tuple.__mul__» ⟨[.ref l, .int x u], []⟩) (fun _ R s => s.heap.get? l = some { cls := .type "tuple", dict := dd, data := .seq items n, slots := sl } ∧
      R (.ok (.ret (Value.ref l))) s) :=
  .of_wp fun prog w A R s h => by
    obtain ⟨hp, g, d, tk, os⟩ := s
    obtain ⟨hl, h⟩ := h
    have f1 := AutoSeq1.idx_int
    wp_walk using wpAny_loadPart' hl
    repeat (first
      | (refine wpAny_ite_false (decide_eq_false (by rw [c0]; exact Bool.false_ne_true)) ?_; wp_walk using wpAny_loadPart' hl)
      | (refine wpAny_ite_true (decide_eq_true c1) ?_; wp_walk using wpAny_loadPart' hl))
    exact ⟨_, rfl, h⟩
theorem tuple_mul0 (l : Addr) (items : Array Value) (n : Nat) (dd : Option Addr) (sl : Array (Option Value)) (x : Int) (u : Tok) (c0 : (decide (x < -(2 ^ 63)) || decide (x ≥ 2 ^ 63)) = false) (c1 : (items.isEmpty || x == 1) = false) (c2 : (decide (x ≤ 0) || items.isEmpty) = true) :
    Meets (Builtin.«tuple.__mul__» ⟨[.ref l, .int x u], []⟩) (fun _ R s => s.heap.get? l = some { cls := .type "tuple", dict := dd, data := .seq items n, slots := sl } ∧
      R (.ok (.ret (Value.ref s.heap.objs.size))) { s with heap := s.heap.push { cls := Value.type "tuple", data := Data.seq #[] }, toks := s.toks }) :=
  .of_wp fun prog w A R s h => by
    obtain ⟨hp, g, d, tk, os⟩ := s
    obtain ⟨hl, h⟩ := h
    have f1 := AutoSeq1.idx_int
    wp_walk using wpAny_loadPart' hl
    repeat (first
      | (refine wpAny_ite_false (decide_eq_false (by rw [c0]; exact Bool.false_ne_true)) ?_; wp_walk using wpAny_loadPart' hl)
      | (refine wpAny_ite_false (decide_eq_false (by rw [c1]; exact Bool.false_ne_true)) ?_; wp_walk using wpAny_loadPart' hl)
      | (refine wpAny_ite_true (decide_eq_true c2) ?_; wp_walk using wpAny_loadPart' hl))
    exact ⟨_, rfl, h⟩
theorem op_repTA {X : Cx} : OpR X (binaryOp .Mult) (fun x y H Q => ∃ l k xs, x = .ref l ∧ y = .int k ∧ H l = some (.tup xs) ∧ 0 ≤ k ∧ k ≤ 1000 ∧ xs.length ≤ 1000 ∧ ((List.replicate k.toNat xs).flatten = xs → Q (.ref l) H) ∧ ∀ p, H p = none → Q (.ref p) (upd H p (.tup (List.replicate k.toNat xs).flatten))) := by
  intro pins s σ H x y v u Q I rx ry h
  obtain ⟨l, k, xs, rfl, rfl, hT, h1, h2, hz, q0, q⟩ := h
  by_cases e : xs ≠ [] ∧ 2 ≤ k
  · exact op_repT pins s σ H _ _ v u Q I rx ry ⟨l, k, xs, rfl, rfl, .inl (.inl hT), e.1, e.2, h2, hz, q⟩
  cases rx
  obtain ⟨t, rfl⟩ := ry
  obtain ⟨its, r, ⟨⟨cls, dd, data, sl⟩, ho, hc, n, hd⟩, hs⟩ := I.tuple (.inl (.inl hT))
  simp only at hc hd
  subst hc hd
  have c0 : (decide (k < -(2 ^ 63)) || decide (k ≥ 2 ^ 63)) = false := by
    rw [decide_eq_false (by omega), decide_eq_false (by omega)] <;> rfl
  have hle : its.length = xs.length := r.length.symm
  cases c1 : (its.toArray.isEmpty || k == 1) with
  | true =>
    refine wpAny_binaryOp_repeat_ref (T := "tuple") (U := "int") (by decide) ⟨_, ho, rfl⟩ (fun s' => typeIs_int s' k t) noFill_tuple_mul F.fills_int_mul F.slot_int_rmul repeat_tuple F.slot_int_index.lookup
      (call_meets F.slot_int_rmul (typeIs_int s k t) F.entry_int_rmul (F.args_int_rmul_2 _ _) (int_rmul_tuple k t l its.toArray n dd sl)
        ⟨ho, rfl, ⟨_, ho, rfl⟩, call_meets F.slot_tuple_mul ⟨_, ho, rfl⟩ F.entry_tuple_mul (F.args_tuple_mul_2 _ _) (tuple_mul1 l its.toArray n dd sl k t c0 c1) ⟨ho, ?_⟩⟩)
    refine ⟨.ref l, _, I.tok s.toks, rfl, q0 ?_⟩
    rw [Bool.or_eq_true] at c1
    rcases c1 with c1 | c1
    · have e2 : its = [] := by simpa using c1
      rw [e2] at hle
      have e3 : xs = [] := List.eq_nil_of_length_eq_zero hle.symm
      subst e3
      simp
    · have e2 : k = 1 := by simpa using c1
      subst e2
      show (List.replicate 1 xs).flatten = xs
      simp
  | false =>
    rw [Bool.or_eq_false_iff] at c1
    have hk : k ≤ 0 := by
      have h3 : k ≠ 1 := by simpa using c1.2
      have h4 : its ≠ [] := by simpa using c1.1
      have h5 : xs ≠ [] := fun z => by
        rw [z] at hle
        exact h4 (List.eq_nil_of_length_eq_zero hle)
      have : ¬ 2 ≤ k := fun z => e ⟨h5, z⟩
      omega
    have k0 : k = 0 := by omega
    subst k0
    refine wpAny_binaryOp_repeat_ref (T := "tuple") (U := "int") (by decide) ⟨_, ho, rfl⟩ (fun s' => typeIs_int s' 0 t) noFill_tuple_mul F.fills_int_mul F.slot_int_rmul repeat_tuple F.slot_int_index.lookup
      (call_meets F.slot_int_rmul (typeIs_int s 0 t) F.entry_int_rmul (F.args_int_rmul_2 _ _) (int_rmul_tuple 0 t l its.toArray n dd sl)
        ⟨ho, rfl, ⟨_, ho, rfl⟩, call_meets F.slot_tuple_mul ⟨_, ho, rfl⟩ F.entry_tuple_mul (F.args_tuple_mul_2 _ _) (tuple_mul0 l its.toArray n dd sl 0 t c0 (by rw [c1.1, c1.2]; rfl) (by simp)) ⟨ho, ?_⟩⟩)
    refine ⟨.ref s.heap.objs.size, _, I.laid (t' := s.toks) (o := .tup []) (fun b ob q => Heap.get?_push_of_some _ q) (Nat.le_refl _) ?_, rfl, q _ (I.hok.fresh (Nat.le_refl _))⟩
    exact ⟨by simp, [], .nil, IsTup.new _ _⟩
theorem flat_len {α : Type} (xs : List α) (k : Nat) : (List.replicate k xs).flatten.length = k * xs.length := by
  rw [PyProof.Rows.lm_len_rep_flat]
theorem op_addBI {X : Cx} : OpR X (binaryOp .Add) (fun x y H Q => ∃ (b : Bool) (j : Int), x = .bl b ∧ y = .int j ∧ Q (.int ((if b = true then (1 : Int) else 0) + j)) H) := by
  intro pins s σ H x y v u Q I rx ry h
  obtain ⟨b, j, rfl, rfl, q⟩ := h
  cases rx
  obtain ⟨t', rfl⟩ := ry
  exact PySem.IntBool.add_bool_int ⟨.int _, H, I.tok _, ⟨_, rfl⟩, q⟩
theorem op_subBI {X : Cx} : OpR X (binaryOp .Sub) (fun x y H Q => ∃ (b : Bool) (j : Int), x = .bl b ∧ y = .int j ∧ Q (.int ((if b = true then (1 : Int) else 0) - j)) H) := by
  intro pins s σ H x y v u Q I rx ry h
  obtain ⟨b, j, rfl, rfl, q⟩ := h
  cases rx
  obtain ⟨t', rfl⟩ := ry
  exact PySem.IntBool.sub_bool_int ⟨.int _, H, I.tok _, ⟨_, rfl⟩, q⟩
theorem fold_size {α : Type} (a : Array α) : ∀ (m : Nat) (acc : Array α), (List.foldl (fun x1 x2 => x1 ++ x2) acc (List.replicate m a)).size = acc.size + m * a.size
  | 0, acc => by simp
  | m + 1, acc => by rw [List.replicate_succ, List.foldl_cons, fold_size a m, Array.size_append, Nat.succ_mul]; omega
theorem or_bin {X : Cx} (Z : Nm) (op : Bop) : OpR X (binaryOp (pyOp op)) (r2 Z (opBin op)) := by
  intro pins s σ H x y v u Q I rx ry h
  obtain ⟨ρ, a, b, r, ha, hb, hg, q⟩ := h
  unfold opBin at hg
  split at hg
  · cases hg
    rw [ha.int] at rx
    rw [hb.int] at ry
    exact op_add pins s σ H _ _ v u Q I rx ry ⟨_, _, rfl, rfl, q.fr0 (.int _)⟩
  · split at hg
    · rename_i h1
      cases hg
      rw [ha.str] at rx
      rw [hb.str] at ry
      exact op_add_str pins s σ H _ _ v u Q I rx ry ⟨_, _, rfl, rfl, Nat.le_of_lt (lenOk_line h1), q.fr0 (.str _)⟩
    · cases hg
  · split at hg
    · rename_i xs ys h1
      cases hg
      obtain ⟨p, vs, rfl, hp, rp⟩ := ha.tup
      obtain ⟨p2, ws, rfl, hp2, rp2⟩ := hb.tup
      refine op_catA pins s σ H _ _ v u Q I rx ry ⟨_, _, _, _, rfl, rfl, .inl (.inl hp), .inl (.inl hp2), by rw [← rp.length, ← rp2.length]; exact Nat.le_of_lt (lenOk_line h1), fun e => ?_, fun _ e => ?_, fun _ _ p hp => q.newT hp (rp.append rp2)⟩
      · have e2 := rp.nil_iff.mpr e
        subst e2
        exact q.fr0 (.tup hp2 rp2)
      · have e2 := rp2.nil_iff.mpr e
        subst e2
        rw [List.append_nil] at q
        exact q.fr0 (.tup hp rp)
    · cases hg
  · split at hg
    · rename_i h1
      cases hg
      obtain ⟨p, vs, rfl, hp, rp⟩ := ha.lst
      obtain ⟨p2, ws, rfl, hp2, rp2⟩ := hb.lst
      exact op_catL pins s σ H _ _ v u Q I rx ry ⟨_, _, _, _, rfl, rfl, hp, hp2, by rw [← rp.length, ← rp2.length]; exact Nat.le_of_lt (lenOk_line h1), fun p hp => q.newL hp (rp.append rp2)⟩
    · cases hg
  · cases hg
    rw [ha.int] at rx
    rw [hb.int] at ry
    exact op_sub pins s σ H _ _ v u Q I rx ry ⟨_, _, rfl, rfl, q.fr0 (.int _)⟩
  · cases hg
    rw [ha.bl] at rx
    rw [hb.int] at ry
    exact op_addBI pins s σ H _ _ v u Q I rx ry ⟨_, _, rfl, rfl, q.fr0 (.int _)⟩
  · cases hg
    rw [ha.bl] at rx
    rw [hb.int] at ry
    exact op_subBI pins s σ H _ _ v u Q I rx ry ⟨_, _, rfl, rfl, q.fr0 (.int _)⟩
  · split at hg
    · rename_i h1
      cases hg
      rw [ha.int] at rx
      rw [hb.int] at ry
      exact op_mulW pins s σ H _ _ v u Q I rx ry ⟨_, _, rfl, rfl, (decide_eq_true_eq.mp h1 : _ < _), q.fr0 (.int _)⟩
    · cases hg
  · split at hg
    · rename_i xs k h1
      cases hg
      rw [Bool.and_eq_true, Bool.and_eq_true, decide_eq_true_eq, decide_eq_true_eq, decide_eq_true_eq] at h1
      obtain ⟨⟨h1, h2⟩, h3⟩ := h1
      obtain ⟨p, vs, rfl, hp, rp⟩ := ha.lst
      rw [hb.int] at ry
      refine op_repL pins s σ H _ _ v u Q I rx ry ⟨_, _, _, rfl, rfl, hp, by omega, by omega, ?_, fun p hp => q.newL hp (rp.rep _)⟩
      rw [← rp.length, sizeLine_eq]
      have : xs.length * k.toNat ≤ 1000 * 1000 := Nat.mul_le_mul h3 (by omega)
      omega
    · cases hg
  · split at hg
    · rename_i xs k h1
      cases hg
      rw [Bool.and_eq_true, Bool.and_eq_true, decide_eq_true_eq, decide_eq_true_eq, decide_eq_true_eq] at h1
      obtain ⟨⟨h1, h2⟩, h3⟩ := h1
      obtain ⟨p, vs, rfl, hp, rp⟩ := ha.tup
      rw [hb.int] at ry
      refine op_repTA pins s σ H _ _ v u Q I rx ry ⟨_, _, _, rfl, rfl, hp, h1, h2, by rw [← rp.length]; exact h3, fun e => ?_, fun p hp => q.newT hp (rp.rep _)⟩
      refine q.fr0 (.tup hp ?_)
      have := rp.rep k.toNat
      rw [e] at this
      exact this
    · cases hg
  · split at hg
    · rename_i z k h1
      cases hg
      rw [Bool.and_eq_true, Bool.and_eq_true, decide_eq_true_eq, decide_eq_true_eq, decide_eq_true_eq] at h1
      obtain ⟨⟨h1, h2⟩, h3⟩ := h1
      rw [ha.str] at rx
      rw [hb.int] at ry
      obtain ⟨t1, rfl⟩ := rx
      obtain ⟨t2, rfl⟩ := ry
      have q : Q (.str (strRep z k)) H := q.fr0 (.str _)
      have l1 : z.length * k.toNat ≤ 1000 * 1000 := Nat.mul_le_mul h3 (by omega)
      refine PySem.P.mul_str (by rw [decide_eq_false (by omega), decide_eq_false (by omega)]; rfl) (fun _ _ => ?_) (fun _ _ => ?_) ?_
      · have : (2 ^ 63 - 1 : Int) / k ≥ (2 ^ 63 - 1) / 1000 := by
          rcases Int.lt_or_le 0 k with hk | hk
          · exact Int.le_ediv_of_mul_le hk (Int.le_trans (Int.mul_le_mul_of_nonneg_left h2 (by decide)) (by decide))
          · omega
        have e : (2 ^ 63 - 1 : Int) / 1000 = 9223372036854775 := by decide
        omega
      · have : ¬ z.length * k.toNat > sizeLine := by rw [sizeLine_eq]; omega
        exact decide_eq_false this
      · unfold strRep at q
        split
        · rename_i e
          rw [if_pos e] at q
          exact ⟨by decide, ⟨.str _, H, I.tok _, ⟨_, rfl⟩, q⟩⟩
        · rename_i e
          rw [if_neg e] at q
          split
          · rename_i e2
            rw [if_pos e2] at q
            exact ⟨.str _, H, I.tok _, ⟨_, rfl⟩, q⟩
          · rename_i e2
            rw [if_neg e2] at q
            refine ⟨?_, ⟨.str _, H, I.tok _, ⟨_, rfl⟩, q⟩⟩
            show (List.foldl (fun x1 x2 => x1 ++ x2) #[] (List.replicate k.toNat z.cps)).size ≤ sizeLine
            have l2 : z.cps.size * k.toNat ≤ 1000 * 1000 := l1
            rw [fold_size, Nat.mul_comm, sizeLine_eq]
            simp; omega
    · cases hg
  · split at hg
    · rename_i h1
      cases hg
      rw [Bool.and_eq_true, decide_eq_true_eq, decide_eq_true_eq] at h1
      rw [ha.int] at rx
      rw [hb.int] at ry
      exact op_fdivW pins s σ H _ _ v u Q I rx ry ⟨_, _, rfl, rfl, h1, q.fr0 (.int _)⟩
    · cases hg
  · split at hg
    · rename_i h1
      cases hg
      rw [ha.int] at rx
      rw [hb.int] at ry
      exact op_mod pins s σ H _ _ v u Q I rx ry ⟨_, _, rfl, rfl, of_decide_eq_true h1, q.fr0 (.int _)⟩
    · cases hg
  · split at hg
    · rename_i h1
      cases hg
      rw [Bool.and_eq_true, Bool.and_eq_true, decide_eq_true_eq, decide_eq_true_eq, decide_eq_true_eq] at h1
      rw [ha.int] at rx
      rw [hb.int] at ry
      exact op_pow pins s σ H _ _ v u Q I rx ry ⟨_, _, rfl, rfl, ⟨h1.1.1, h1.1.2, h1.2⟩, q.fr0 (.int _)⟩
    · cases hg
  · cases hg
end Qv
end
section
set_option Elab.async false
set_option linter.all false
set_option autoImplicit false
set_option maxRecDepth 100000
set_option maxHeartbeats 1000000
/-! Q5: comparisons, subscripts, slices by values. -/
namespace Qv
open PySem PySem.Spec PyProof.Rows L2

/-! ### comparisons -/
def pyCop : Cop → CmpOp
  | .eq => .Eq | .ne => .NotEq | .lt => .Lt | .le => .LtE | .gt => .Gt | .ge => .GtE | .inn => .In | .nin => .NotIn | .isx => .Is | .isn => .IsNot
section
variable {X : Cx}
theorem Rds.dps {Z : Nm} {ρ : List Addr} {H : Hp} (K : PySem.W.Frag) {xs : List PV} {x : V} (h : Rd1 Z ρ H (.lst xs) x) (c : SeqAt.shaped (.list (toDs xs)) = true) : Dp K H x (.list (toDs xs)) := h.dp K c
theorem op_inT (hu : X.A.units + 65 < cLine) (neg : Bool) : OpR X (compareOp (if neg then .NotIn else .In)) (fun x y H Q => ∃ d ds, Dp X.K H x d ∧ Dp X.K H y (.tuple ds) ∧ SeqAt.shaped d = true ∧ SeqAt.shaped (.list ds) = true ∧ Q (.bl (if neg then !(ds.any fun z => PyData.eqv z d) else ds.any fun z => PyData.eqv z d)) H) := by
  intro pins s σ H x y v u Q I rx ry h
  obtain ⟨d, ds, hd, he, sd, se, q⟩ := h
  obtain ⟨as, r1⟩ := Dp.reads I d x v hd rx
  obtain ⟨bs, r2⟩ := Dp.reads I (.tuple ds) y u he ry
  cases neg with
  | true => exact SeqAt.notIn_tuple_reads r2 r1 (SeqAt.canLay_of_shaped se) (SeqAt.canLay_of_shaped sd) (room_in_shaped sd hu) ⟨.bl _, H, I, rfl, q⟩
  | false => exact SeqAt.in_tuple_reads r2 r1 (SeqAt.canLay_of_shaped se) (SeqAt.canLay_of_shaped sd) (room_in_shaped sd hu) ⟨.bl _, H, I, rfl, q⟩
theorem is_nb {neg : Bool} (b : Bool) {M : Model} {A : Around} {E : Value → Shared → Prop} {s : Shared} {Q : Value → Shared → Prop} (h : Q (.bool neg) s) : wpAny M A (compareOp (if neg then .IsNot else .Is) .none (.bool b)) Q E s := by
  cases neg with
  | true => exact wpAny_isNot_other rfl (fun z => nomatch z) h
  | false => exact wpAny_is_other rfl (fun z => nomatch z) h
theorem or_cmp (Z : Nm) (op : Cop) (hu : X.A.units + 65 < cLine) : OpR X (compareOp (pyCop op)) (r2 Z (cmpR op)) := by
  intro pins s σ H x y v u Q I rx ry h
  obtain ⟨ρ, a, b, r, ha, hb, hg, q⟩ := h
  unfold cmpR at hg
  cases ho : opCmp op a b with
  | none => rw [ho] at hg; cases hg
  | some c =>
    rw [ho] at hg
    cases hg
    have q : Q (.bl c) H := q.fr0 (.bl c)
    unfold opCmp at ho
    split at ho
    · unfold pyEq at ho
      split at ho
      · rename_i hs
        rw [Bool.and_eq_true] at hs
        cases ho
        exact op_eqD (by omega) pins s σ H x y v u Q I rx ry ⟨_, _, ha.dp X.K hs.1, hb.dp X.K hs.2, hs.1, hs.2, q⟩
      · cases ho
    · unfold pyEq at ho
      split at ho
      · rename_i hs
        rw [Bool.and_eq_true] at hs
        cases ho
        exact op_neD (by omega) pins s σ H x y v u Q I rx ry ⟨_, _, ha.dp X.K hs.1, hb.dp X.K hs.2, hs.1, hs.2, q⟩
      · cases ho
    · cases ho
      rw [ha.int] at rx
      rw [hb.int] at ry
      exact op_lt pins s σ H _ _ v u Q I rx ry ⟨_, _, rfl, rfl, q⟩
    · cases ho
      rw [ha.int] at rx
      rw [hb.int] at ry
      exact op_le pins s σ H _ _ v u Q I rx ry ⟨_, _, rfl, rfl, q⟩
    · cases ho
      rw [ha.int] at rx
      rw [hb.int] at ry
      exact op_gt pins s σ H _ _ v u Q I rx ry ⟨_, _, rfl, rfl, q⟩
    · cases ho
      rw [ha.int] at rx
      rw [hb.int] at ry
      exact op_ge pins s σ H _ _ v u Q I rx ry ⟨_, _, rfl, rfl, q⟩
    · unfold pyIn at ho
      split at ho
      · rename_i ys hs
        rw [Bool.and_eq_true] at hs
        cases ho
        exact op_inD hu pins s σ H x y v u Q I rx ry ⟨_, _, ha.dp X.K hs.1, Rds.dps X.K hb hs.2, hs.1, hs.2, q⟩
      · cases ho
    · unfold pyIn at ho
      split at ho
      · rename_i ys hs
        rw [Bool.and_eq_true] at hs
        cases ho
        obtain ⟨p, vs, rfl, hp, rp⟩ := hb.tup
        refine op_inT hu false pins s σ H x _ v u Q I rx ry ⟨_, toDs ys, ha.dp X.K hs.1, .tup (.inl (.inl hp)) (rp.dp X.K ?_), hs.1, hs.2, q⟩
        have := SeqAt.canLay_of_shaped hs.2
        simpa [PyData.canLay0] using this
      · cases ho
    · unfold pyIn at ho
      split at ho
      · rename_i ys hs
        rw [Bool.and_eq_true] at hs
        cases ho
        exact op_notInD hu pins s σ H x y v u Q I rx ry ⟨_, _, ha.dp X.K hs.1, Rds.dps X.K hb hs.2, hs.1, hs.2, q⟩
      · cases ho
    · unfold pyIn at ho
      split at ho
      · rename_i ys hs
        rw [Bool.and_eq_true] at hs
        cases ho
        obtain ⟨p, vs, rfl, hp, rp⟩ := hb.tup
        refine op_inT hu true pins s σ H x _ v u Q I rx ry ⟨_, toDs ys, ha.dp X.K hs.1, .tup (.inl (.inl hp)) (rp.dp X.K ?_), hs.1, hs.2, q⟩
        have := SeqAt.canLay_of_shaped hs.2
        simpa [PyData.canLay0] using this
      · cases ho
    · cases ho
      rw [ha.str] at rx
      rw [hb.str] at ry
      exact op_in_str pins s σ H _ _ v u Q I rx ry ⟨_, _, rfl, rfl, q⟩
    · cases ho
      rw [ha.str] at rx
      rw [hb.str] at ry
      exact op_notin_str pins s σ H _ _ v u Q I rx ry ⟨_, _, rfl, rfl, q⟩
    · cases ho
      refine op_isN pins s σ H x y v u Q I rx ry ⟨hb.non, ?_⟩
      cases a with
      | non => rw [ha.non]; exact q
      | bl b => rw [ha.bl]; exact q
      | int b => rw [ha.int]; exact q
      | str b => rw [ha.str]; exact q
      | tup b => obtain ⟨_, _, rfl, _⟩ := ha.tup; exact q
      | lst b => obtain ⟨_, _, rfl, _⟩ := ha.lst; exact q
      | dct a b => rcases ha with h | ⟨_, _, h⟩ <;> cases h
      | fn i => rcases ha with h | ⟨_, _, h⟩ <;> cases h; exact q
      | cl i => rcases ha with h | ⟨_, _, h⟩ <;> cases h; exact q
      | ob i => rcases ha with h | ⟨_, _, h⟩ <;> cases h; exact q
      | clo i _ => rcases ha with h | ⟨_, _, h⟩ <;> cases h; exact q
      | exn i => rcases ha with h | ⟨_, _, h⟩ <;> cases h; exact q
    · cases ho
      refine op_notN pins s σ H x y v u Q I rx ry ⟨hb.non, ?_⟩
      cases a with
      | non => rw [ha.non]; exact q
      | bl b => rw [ha.bl]; exact q
      | int b => rw [ha.int]; exact q
      | str b => rw [ha.str]; exact q
      | tup b => obtain ⟨_, _, rfl, _⟩ := ha.tup; exact q
      | lst b => obtain ⟨_, _, rfl, _⟩ := ha.lst; exact q
      | dct a b => rcases ha with h | ⟨_, _, h⟩ <;> cases h
      | fn i => rcases ha with h | ⟨_, _, h⟩ <;> cases h; exact q
      | cl i => rcases ha with h | ⟨_, _, h⟩ <;> cases h; exact q
      | ob i => rcases ha with h | ⟨_, _, h⟩ <;> cases h; exact q
      | clo i _ => rcases ha with h | ⟨_, _, h⟩ <;> cases h; exact q
      | exn i => rcases ha with h | ⟨_, _, h⟩ <;> cases h; exact q
    · cases ho
      rw [ha.bl] at rx
      rw [hb.bl] at ry
      exact op_isBl pins s σ H _ _ v u Q I rx ry ⟨_, _, rfl, rfl, q⟩
    · cases ho
      rw [ha.bl] at rx
      rw [hb.bl] at ry
      exact op_notBl pins s σ H _ _ v u Q I rx ry ⟨_, _, rfl, rfl, q⟩
    · cases ho
      rw [ha.non] at rx
      rw [hb.bl] at ry
      cases rx
      cases ry
      exact is_nb (neg := false) _ ⟨.bl _, H, I, rfl, q⟩
    · cases ho
      rw [ha.non] at rx
      rw [hb.bl] at ry
      cases rx
      cases ry
      exact is_nb (neg := true) _ ⟨.bl _, H, I, rfl, q⟩
    · cases ho
end

/-! ### subscripts -/
theorem Rps.atI {Z : Nm} {ρ : List Addr} {H : Hp} {xs : List PV} {vs : List V} {k : Int} {w : PV} (h : Rps Z ρ H xs vs) (e : L2.atI xs k = some w) : ∃ z, L2.atI vs k = some z ∧ Rp Z ρ H w z := by
  unfold L2.atI at e ⊢
  rw [← h.length]
  cases q : ixN xs.length k with
  | none => rw [q] at e; cases e
  | some j =>
    rw [q] at e
    exact h.get e
theorem or_ix {X : Cx} (Z : Nm) : IxR X (r2 Z ixR) := by
  intro value slice pins s σ H x y v u Q I rx ry h hs
  obtain ⟨ρ, a, b, r, ha, hb, hg, q⟩ := h
  unfold ixR at hg
  cases ho : opIx a b with
  | none => rw [ho] at hg; cases hg
  | some c =>
    rw [ho] at hg
    cases hg
    unfold opIx at ho
    split at ho
    · obtain ⟨p, vs, rfl, hp, rp⟩ := ha.lst
      obtain ⟨z, e1, e2⟩ := rp.atI ho
      rw [hb.int] at ry
      exact ix_list value slice pins s σ H _ _ v u Q I rx ry ⟨_, _, _, _, rfl, rfl, .inl hp, e1, q.fr0 e2⟩ hs
    · obtain ⟨p, vs, rfl, hp, rp⟩ := ha.tup
      obtain ⟨z, e1, e2⟩ := rp.atI ho
      rw [hb.int] at ry
      exact ix_tup value slice pins s σ H _ _ v u Q I rx ry ⟨_, _, _, _, rfl, rfl, .inl (.inl hp), e1, q.fr0 e2⟩ hs
    · split at ho
      · rename_i h1
        rw [ha.str] at rx
        rw [hb.int] at ry
        cases e : L2.atI _ _ with
        | none => rw [e] at ho; cases ho
        | some w =>
          rw [e] at ho
          cases ho
          exact ix_str value slice pins s σ H _ _ v u Q I rx ry ⟨_, _, _, rfl, rfl, Nat.le_of_lt (lenOk_line h1), e, q.fr0 (.str _)⟩ hs
      · cases ho
    · cases ho

/-! ### slices -/
theorem Rps.cut {Z : Nm} {ρ : List Addr} {H : Hp} {xs : List PV} {vs : List V} (h : Rps Z ρ H xs vs) (lo hi : Option Int) : Rps Z ρ H (cutP xs lo hi) (cutV vs lo hi) := by
  unfold cutP cutV
  rw [← h.length]
  exact (h.drop _).take _
def rSl (Z : Nm) : V → Option Int → Option Int → Hp → VK → Prop := fun x lo hi H Q => ∃ ρ u r, Rd1 Z ρ H u x ∧ opSl u lo hi = some r ∧ Res Z ρ H r Q
theorem or_sl {X : Cx} (Z : Nm) : SlR X (rSl Z) := by
  intro pins s σ H x v vl vu lo hi sl Q I rx hs pl pu h
  obtain ⟨ρ, a, r, ha, hg, q⟩ := h
  unfold opSl at hg
  split at hg
  · cases hg
    obtain ⟨p, vs, rfl, hp, rp⟩ := ha.lst
    exact sl_list pins s σ H _ v vl vu lo hi sl Q I rx hs pl pu ⟨_, _, rfl, .inl hp, fun p hp => q.newL hp (rp.cut lo hi)⟩
  · cases hg
    obtain ⟨p, vs, rfl, hp, rp⟩ := ha.tup
    refine sl_tupA pins s σ H _ v vl vu lo hi sl Q I rx hs pl pu ⟨_, _, rfl, .inl (.inl hp), fun hw => ?_, fun _ p hp => q.newT hp (rp.cut lo hi)⟩
    refine q.fr0 (.tup hp ?_)
    have := rp.cut lo hi
    rw [show cutV vs lo hi = vs by unfold cutV; rw [hw.1, hw.2]; simp] at this
    exact this
  · split at hg
    · rename_i z hz
      cases hg
      rw [ha.str] at rx
      exact C8.sl_txt pins s σ H _ v vl vu lo hi sl Q I rx hs pl pu ⟨z, rfl, Nat.le_of_lt (lenOk_line hz), q.fr0 (.str _)⟩
    · cases hg
  · cases hg
end Qv
end
section
set_option Elab.async false
set_option linter.all false
set_option autoImplicit false
set_option maxRecDepth 100000
set_option maxHeartbeats 1000000
/-! Q6: built-ins by values. -/
namespace Qv
open PySem PySem.Spec PyProof.Rows L2

section
variable {Z : Nm} {ρ : List Addr} {H : Hp}
theorem Rps.ints : ∀ {xs : List PV} {ns : List Int} {vs : List V}, Rps Z ρ H xs vs → intL xs = some ns → vs = ns.map V.int
  | [], ns, _, .nil, e => by cases e; rfl
  | x :: xs, ns, _, .cons h r, e => by
    cases x with
    | int i =>
      cases q : intL xs with
      | none => simp [intL, q] at e
      | some ms =>
        simp [intL, q] at e
        subst e
        cases h
        rw [Rps.ints r q]
        rfl
    | _ => simp [intL] at e
theorem Rps.bls : ∀ {xs : List PV} {ns : List Bool} {vs : List V}, Rps Z ρ H xs vs → Qv.bls xs = some ns → vs = ns.map V.bl
  | [], ns, _, .nil, e => by cases e; rfl
  | x :: xs, ns, _, .cons h r, e => by
    cases x with
    | bl i =>
      cases q : Qv.bls xs with
      | none => simp [Qv.bls, q] at e
      | some ms =>
        simp [Qv.bls, q] at e
        subst e
        cases h
        rw [Rps.bls r q]
        rfl
    | _ => simp [Qv.bls] at e
theorem Rds.one {a : PV} {vs : List V} (h : Rds Z ρ H [a] vs) : ∃ x, vs = [x] ∧ Rd1 Z ρ H a x := by
  cases h with
  | cons h r => cases r; exact ⟨_, rfl, h⟩
theorem Rds.two {a b : PV} {vs : List V} (h : Rds Z ρ H [a, b] vs) : ∃ x y, vs = [x, y] ∧ Rd1 Z ρ H a x ∧ Rd1 Z ρ H b y := by
  cases h with
  | cons h r =>
    cases r with
    | cons h2 r => cases r; exact ⟨_, _, rfl, h, h2⟩
end
theorem foldl_max_mem : ∀ (l : List Int) (x : Int), l.foldl max x = x ∨ l.foldl max x ∈ l
  | [], x => .inl rfl
  | y :: r, x => by
    show r.foldl max (max x y) = x ∨ _
    rcases foldl_max_mem r (max x y) with h | h
    · rw [List.foldl_cons, h]
      by_cases q : x ≤ y
      · rw [Int.max_eq_right q]; exact .inr (by simp)
      · rw [Int.max_eq_left (by omega)]; exact .inl rfl
    · exact .inr (List.mem_cons_of_mem _ h)
theorem foldl_max_ge : ∀ (l : List Int) (x : Int), x ≤ l.foldl max x ∧ ∀ y ∈ l, y ≤ l.foldl max x
  | [], x => ⟨Int.le_refl _, fun _ h => by cases h⟩
  | y :: r, x => by
    obtain ⟨h1, h2⟩ := foldl_max_ge r (max x y)
    refine ⟨Int.le_trans (Int.le_max_left x y) h1, fun z hz => ?_⟩
    rcases List.mem_cons.mp hz with e | e
    · subst e; exact Int.le_trans (Int.le_max_right x z) h1
    · exact h2 z e
theorem foldl_min_mem : ∀ (l : List Int) (x : Int), l.foldl min x = x ∨ l.foldl min x ∈ l
  | [], x => .inl rfl
  | y :: r, x => by
    rcases foldl_min_mem r (min x y) with h | h
    · rw [List.foldl_cons, h]
      by_cases q : x ≤ y
      · rw [Int.min_eq_left q]; exact .inl rfl
      · rw [Int.min_eq_right (by omega)]; exact .inr (by simp)
    · exact .inr (List.mem_cons_of_mem _ h)
theorem foldl_min_le : ∀ (l : List Int) (x : Int), l.foldl min x ≤ x ∧ ∀ y ∈ l, l.foldl min x ≤ y
  | [], x => ⟨Int.le_refl _, fun _ h => by cases h⟩
  | y :: r, x => by
    obtain ⟨h1, h2⟩ := foldl_min_le r (min x y)
    refine ⟨Int.le_trans h1 (Int.min_le_left x y), fun z hz => ?_⟩
    rcases List.mem_cons.mp hz with e | e
    · subst e; exact Int.le_trans h1 (Int.min_le_right x z)
    · exact h2 z e
theorem maxI_is {ns : List Int} {m k : Int} (e : maxI ns = some k) (h1 : m ∈ ns) (h2 : ∀ y ∈ ns, y ≤ m) : m = k := by
  cases ns with
  | nil => cases e
  | cons x r =>
    cases e
    have a := foldl_max_ge r x
    have b : r.foldl max x ∈ x :: r := by
      rcases foldl_max_mem r x with h | h
      · rw [h]; simp
      · exact List.mem_cons_of_mem _ h
    have c := h2 _ b
    have d : m ≤ r.foldl max x := by
      rcases List.mem_cons.mp h1 with e | e
      · subst e; exact a.1
      · exact a.2 m e
    omega
theorem minI_is {ns : List Int} {m k : Int} (e : minI ns = some k) (h1 : m ∈ ns) (h2 : ∀ y ∈ ns, m ≤ y) : m = k := by
  cases ns with
  | nil => cases e
  | cons x r =>
    cases e
    have a := foldl_min_le r x
    have b : r.foldl min x ∈ x :: r := by
      rcases foldl_min_mem r x with h | h
      · rw [h]; simp
      · exact List.mem_cons_of_mem _ h
    have c := h2 _ b
    have d : r.foldl min x ≤ m := by
      rcases List.mem_cons.mp h1 with e | e
      · subst e; exact a.1
      · exact a.2 m e
    omega
/-- what of a built-in the machine calls -/
inductive BiK where
  | fn (n : String) | ty (n : String)
def biK : Bi → BiK
  | .abs => .fn "abs" | .all => .fn "all" | .any => .fn "any" | .bool => .ty "bool" | .int => .ty "int" | .len => .fn "len" | .list => .ty "list" | .tuple => .ty "tuple"
  | .max => .fn "max" | .min => .fn "min" | .str => .ty "str" | .sum => .fn "sum" | .sorted => .fn "sorted" | .sset => .fn "sorted" | .isA _ => .fn "isinstance" | .isX _ => .fn "isinstance" | .isV => .fn "isinstance"
def BiK.val : BiK → Value
  | .fn n => .builtin n
  | .ty n => .type n
def rBi (Z : Nm) (b : Bi) : List V → Hp → VK → Prop := fun vs H Q => ∃ ρ as r, Rds Z ρ H as vs ∧ opBi b as = some r ∧ Res Z ρ H r Q
def tyN : Ty → String
  | .int => "int" | .bool => "bool" | .str => "str" | .list => "list" | .tuple => "tuple"
theorem kit_ok (K : PySem.W.Frag) (Z : Nm) (ρ : List Addr) (H : Hp) (T : Ty) (v : PV) (x : V) (b : Bool) (h : Rd1 Z ρ H v x) (e : isTy T v = some b) : ∃ t, TyX K H x (.type t) ∧ PySem.W.kitOne K (.type t) (.type (tyN T)) = some b := by
  unfold isTy at e
  have kt : ∀ {a : String} {r : Bool}, L2.kitB a (tyN T) = some r → PySem.W.kitOne K (.type a) (.type (tyN T)) = some r := fun h => L2.kit_ty h
  cases v with
  | non => cases e; rw [h.non]; exact ⟨_, .base .non, kt (by cases T <;> decide +kernel)⟩
  | bl c => rw [h.bl]; exact ⟨_, .base (.bl c), kt (by cases T <;> cases e <;> decide +kernel)⟩
  | int c => rw [h.int]; exact ⟨_, .base (.int c), kt (by cases T <;> cases e <;> decide +kernel)⟩
  | str c => rw [h.str]; exact ⟨_, .base (.str c), kt (by cases T <;> cases e <;> decide +kernel)⟩
  | tup c => obtain ⟨a, vs, rfl, hp, _⟩ := h.tup; exact ⟨_, .base (.tup hp), kt (by cases T <;> cases e <;> decide +kernel)⟩
  | lst c =>
    obtain ⟨a, vs, rfl, hp, _⟩ := h.lst
    rcases hp with hp | ⟨o, hp⟩
    · exact ⟨_, .base (.lst hp), kt (by cases T <;> cases e <;> decide +kernel)⟩
    · exact ⟨_, .base (.frz hp), kt (by cases T <;> cases e <;> decide +kernel)⟩
  | _ => cases T <;> cases e
theorem call_isA {X : Cx} (Z : Nm) (T : Ty) : CallR X (.builtin "isinstance") (fun vs H Q => ∃ x, vs = [x, .ty (tyN T)] ∧ rBi Z (.isA T) [x] H Q) := by
  intro pins s σ H vs us Q I rv h
  obtain ⟨x, rfl, ρ, as, r, hr, hg, q⟩ := h
  cases hr with
  | @cons v as x _ h1 h2 =>
    cases h2
    have hg : (isTy T v).map (fun b => RV.fr (.bl b)) = some r := hg
    cases h : isTy T v with
    | none => rw [h] at hg; cases hg
    | some b =>
      rw [h] at hg
      cases hg
      obtain ⟨t, h1, h2⟩ := kit_ok X.K Z ρ H T v x b h1 h
      exact call_isi pins s σ H _ us Q I rv ⟨x, .ty (tyN T), .type t, .type (tyN T), b, rfl, .ty _, h1, h2, q.fr0 (.bl b)⟩
/-- the built-ins that are called by their names, with values -/
def plainB : Bi → Bool
  | .isA _ => false
  | .isX _ => false
  | .isV => false
  | .sset => false
  | .sorted => false
  | _ => true
theorem or_bi {X : Cx} (hc : X.calm = true) (Z : Nm) (b : Bi) (hp : plainB b = true) : CallR X (biK b).val (rBi Z b) := by
  intro pins s σ H vs us Q I rv h
  obtain ⟨ρ, as, r, hr, hg, q⟩ := h
  unfold opBi at hg
  split at hg
  · -- abs
    cases hg
    obtain ⟨x, rfl, h1⟩ := hr.one
    rw [h1.int] at rv
    exact call_abs pins s σ H _ us Q I rv ⟨_, rfl, q.fr0 (.int _)⟩
  · -- all
    obtain ⟨x, rfl, h1⟩ := hr.one
    obtain ⟨p, ws, rfl, hp, rp⟩ := h1.lst
    rename_i xs _
    cases e : Qv.bls xs with
    | none => rw [e] at hg; cases hg
    | some bs =>
      rw [e] at hg
      cases hg
      have e2 := rp.bls e
      subst e2
      exact cr_all hc pins s σ H _ us Q I rv ⟨p, bs, rfl, .inl hp, q.fr0 (.bl _)⟩
  · -- any
    obtain ⟨x, rfl, h1⟩ := hr.one
    obtain ⟨p, ws, rfl, hp, rp⟩ := h1.lst
    rename_i xs _
    cases e : Qv.bls xs with
    | none => rw [e] at hg; cases hg
    | some bs =>
      rw [e] at hg
      cases hg
      have e2 := rp.bls e
      subst e2
      exact cr_any hc pins s σ H _ us Q I rv ⟨p, bs, rfl, .inl hp, q.fr0 (.bl _)⟩
  · -- bool
    cases hg
    obtain ⟨x, rfl, h1⟩ := hr.one
    rw [h1.bl] at rv
    exact call_bool1 pins s σ H _ us Q I rv (.inr ⟨_, rfl, q.fr0 (.bl _)⟩)
  · -- int
    cases hg
    obtain ⟨x, rfl, h1⟩ := hr.one
    rw [h1.int] at rv
    exact call_int1 pins s σ H _ us Q I rv (.inl ⟨_, rfl, q.fr0 (.int _)⟩)
  · split at hg
    · rename_i z hz
      obtain ⟨x, rfl, h1⟩ := hr.one
      rw [h1.str] at rv
      cases e : intText? z with
      | none => rw [e] at hg; cases hg
      | some i =>
        rw [e] at hg
        cases hg
        exact call_int_str pins s σ H _ us Q I rv ⟨_, _, rfl, e, of_decide_eq_true hz, q.fr0 (.int _)⟩
    · cases hg
  · -- len
    cases hg
    obtain ⟨x, rfl, h1⟩ := hr.one
    obtain ⟨p, ws, rfl, hp, rp⟩ := h1.lst
    refine call_len_seq pins s σ H _ us Q I rv ⟨p, ws, rfl, .inl (.inl hp), q.fr0 ?_⟩
    rw [← rp.length]
    exact .int _
  · cases hg
    obtain ⟨x, rfl, h1⟩ := hr.one
    obtain ⟨p, ws, rfl, hp, rp⟩ := h1.tup
    refine call_len_seq pins s σ H _ us Q I rv ⟨p, ws, rfl, .inr (.inl (.inl hp)), q.fr0 ?_⟩
    rw [← rp.length]
    exact .int _
  · split at hg
    · rename_i z hz
      cases hg
      obtain ⟨x, rfl, h1⟩ := hr.one
      rw [h1.str] at rv
      exact call_len_str pins s σ H _ us Q I rv ⟨_, rfl, Nat.le_of_lt (lenOk_line hz), q.fr0 (.int _)⟩
    · cases hg
  · -- list
    cases hg
    obtain ⟨x, rfl, h1⟩ := hr.one
    obtain ⟨p, ws, rfl, hp, rp⟩ := h1.lst
    exact call_list_of pins s σ H _ us Q I rv ⟨p, ws, rfl, .inl (.inl hp), fun l hl => q.newL hl rp⟩
  · cases hg
    obtain ⟨x, rfl, h1⟩ := hr.one
    obtain ⟨p, ws, rfl, hp, rp⟩ := h1.tup
    exact call_list_of pins s σ H _ us Q I rv ⟨p, ws, rfl, .inr (.inl (.inl hp)), fun l hl => q.newL hl rp⟩
  · -- tuple
    cases hg
    obtain ⟨x, rfl, h1⟩ := hr.one
    obtain ⟨p, ws, rfl, hp, rp⟩ := h1.lst
    exact call_tuple_of pins s σ H _ us Q I rv ⟨p, ws, rfl, .inl ⟨.inl hp, fun l hl => q.newT hl rp⟩⟩
  · cases hg
    obtain ⟨x, rfl, h1⟩ := hr.one
    obtain ⟨p, ws, rfl, hp, rp⟩ := h1.tup
    exact call_tuple_of pins s σ H _ us Q I rv ⟨p, ws, rfl, .inr ⟨.inl (.inl hp), q.fr0 (.tup hp rp)⟩⟩
  · -- max
    cases hg
    obtain ⟨x, y, rfl, h1, h2⟩ := hr.two
    rw [h1.int, h2.int] at rv
    exact call_max2 hc pins s σ H _ us Q I rv ⟨_, _, rfl, q.fr0 (.int _)⟩
  · obtain ⟨x, rfl, h1⟩ := hr.one
    obtain ⟨p, ws, rfl, hp, rp⟩ := h1.lst
    rename_i xs _
    cases e : intL xs with
    | none => rw [e] at hg; cases hg
    | some ns =>
      rw [e] at hg
      have e2 := rp.ints e
      subst e2
      cases e3 : maxI ns with
      | none => rw [Option.bind_some, e3] at hg; cases hg
      | some k =>
        rw [Option.bind_some, e3] at hg
        cases hg
        refine cr_max hc pins s σ H _ us Q I rv ⟨p, ns, rfl, .inl hp, ?_, fun m m1 m2 => ?_⟩
        · cases ns with
          | nil => cases e3
          | cons _ _ => exact Nat.zero_lt_succ _
        · rw [maxI_is e3 m1 m2]
          exact q.fr0 (.int _)
  · obtain ⟨x, rfl, h1⟩ := hr.one
    obtain ⟨p, ws, rfl, hp, rp⟩ := h1.lst
    rename_i xs _
    cases e : intL xs with
    | none => rw [e] at hg; cases hg
    | some ns =>
      rw [e] at hg
      have e2 := rp.ints e
      subst e2
      cases e3 : minI ns with
      | none => rw [Option.bind_some, e3] at hg; cases hg
      | some k =>
        rw [Option.bind_some, e3] at hg
        cases hg
        refine cr_min hc pins s σ H _ us Q I rv ⟨p, ns, rfl, .inl hp, ?_, fun m m1 m2 => ?_⟩
        · cases ns with
          | nil => cases e3
          | cons _ _ => exact Nat.zero_lt_succ _
        · rw [minI_is e3 m1 m2]
          exact q.fr0 (.int _)
  · split at hg
    · rename_i i hz
      cases hg
      obtain ⟨x, rfl, h1⟩ := hr.one
      rw [h1.int] at rv
      exact call_str_int pins s σ H _ us Q I rv ⟨_, rfl, of_decide_eq_true hz, q.fr0 (.str _)⟩
    · cases hg
  · cases hg
    obtain ⟨x, rfl, h1⟩ := hr.one
    rw [h1.str] at rv
    exact SkE.call_str_str pins s σ H _ us Q I rv ⟨_, rfl, q.fr0 (.str _)⟩
  · obtain ⟨x, rfl, h1⟩ := hr.one
    obtain ⟨p, ws, rfl, hp, rp⟩ := h1.lst
    rename_i xs _
    cases e : intL xs with
    | none => rw [e] at hg; cases hg
    | some ns =>
      rw [e] at hg
      cases hg
      have e2 := rp.ints e
      subst e2
      exact cr_sum hc pins s σ H _ us Q I rv ⟨p, ns, rfl, .inl hp, q.fr0 (.int _)⟩
  · cases hp
  · cases hp
  · cases hp
  · cases hg
end Qv
end
section
set_option Elab.async false
set_option linter.all false
set_option autoImplicit false
set_option maxRecDepth 100000
set_option maxHeartbeats 1000000
/-! Q7: expressions. -/
namespace Qv
open PySem PySem.Spec PyProof.Rows L2
section
variable {α β ξ ζ : Type} {Z : Nm} {W : WX} {ρ ρ1 : List Addr} {s s1 : Sta} {σ : Sg} {H H0 H1 : Hp} {rel : Rl α ξ} {rel2 : Rl β ζ}
theorem Nxt.same (m : Sim Z ρ s σ H) (h : Same H H1) : Nxt Z ρ s σ H ρ s H1 := by
  have kp := kp_same (ρ := ρ) h
  refine ⟨⟨m.len, fun j v q => ?_, fun j v q => ?_, m.dis, ⟨m.obs.len, m.obs.nd, fun n ob b q1 q2 => ?_, fun p hp => (m.obs.tab p hp).keep fun b o q _ => h b o q⟩⟩, List.prefix_refl _, fun _ q => .inl q, fun b o q _ _ _ => h b o q, fun i v q => ⟨v, q⟩, fun b q => ?_, fun b ps q => ⟨ps, h b _ q⟩⟩
  · obtain ⟨x, e1, e2⟩ := m.fr j v q
    exact ⟨x, e1, e2.mono kp⟩
  · obtain ⟨b, e1, e2⟩ := m.own j v q
    obtain ⟨vs, e⟩ := e2.get
    exact ⟨b, e1, e2.mono kp (by rw [h _ _ e, e])⟩
  · obtain ⟨dx, fs, e1, e2, e3⟩ := m.obs.at_ n ob b q1 q2
    exact ⟨dx, fs, h _ _ e1, e2.mono kp, e3⟩
  · obtain ⟨vs, e⟩ := m.ownAt q
    rw [h _ _ e]
    exact fun z => nomatch z
/-- what an operation gives is what an expression gives -/
theorem ResRel.rv {r : RV} {z : V} (m : Sim Z ρ s σ H) (h : ResRel Z ρ H H1 r z) : (rRV Z σ).p H ρ s H1 r z := by
  cases r with
  | fr w => exact h
  | own w =>
    obtain ⟨a, h1, h2, h3⟩ := h
    refine ⟨a, h1, h2, fun q => ?_, fun q => ?_, h3⟩
    · obtain ⟨vs, e⟩ := m.ownAt q
      rw [h3] at e
      cases e
    · obtain ⟨C, dx, fs, e⟩ := m.obs.at' q
      rw [h3] at e
      cases e
  | sl i => exact False.elim h
theorem Pst.res {o : Option RV} {Q : VK} (m : Sim Z ρ s σ H) (h : Pst Z W (rRV Z σ) ρ s σ H (M.ofO o s) Q) : ∃ r, o = some r ∧ Res Z ρ H r Q := by
  cases o with
  | none => exact False.elim h
  | some r => exact ⟨r, rfl, fun H' z hs hr => h ρ H' z (Nxt.same m hs) (hr.rv m)⟩
/-- one result, at once -/
theorem Pst.res1 {r : RV} {Q : VK} (m : Sim Z ρ s σ H) (h : Pst Z W (rRV Z σ) ρ s σ H (.ok r s) Q) : Res Z ρ H r Q := fun H' z hs hr => h ρ H' z (Nxt.same m hs) (hr.rv m)
theorem Pst.deref {r : RV} {x : V} {f : PV → M β} {Q : ζ → Hp → Prop} (m : Sim Z ρ s σ H) (k : (rRV Z σ).p H0 ρ s H r x) (h : Pst Z W rel2 ρ s σ H ((Qv.deref r >>= f) s) Q) :
    ∃ v, Rd1 Z ρ H v x ∧ Pst Z W rel2 ρ s σ H (f v s) Q := by
  have h : Pst Z W rel2 ρ s σ H ((Qv.deref r s).bind f) Q := h
  cases e : Qv.deref r s with
  | ok v s' =>
    rw [e] at h
    obtain ⟨rfl, e2⟩ := rRV_deref m k e
    exact ⟨v, e2, h⟩
  | exc c s' =>
    exfalso
    unfold Qv.deref at e
    cases r with
    | fr v => cases e
    | own v => cases e
    | sl i => dsimp only at e; split at e <;> cases e
  | bad => rw [e] at h; exact False.elim h
end
section
variable {Z : Nm} {W : WX} {F : FT} {X : Cx}

/-- two operands, and an operation -/
theorem rd2 {a b c : E} {g : PV → PV → Option RV} (hc : ∀ s, dE F c s = (do
      let x ← dE F a
      let y ← dE F b
      let x ← deref x
      let y ← deref y
      M.ofO (g x y) : M RV) s) {σ : Sg} {H : Hp} {Q : VK} (h : rdE Z W F c σ H Q) : tOp (r2 Z g) (rdE Z W F a) (rdE Z W F b) σ H Q := by
  obtain ⟨ρ, s, m, h⟩ := h
  rw [hc] at h
  refine ⟨ρ, s, m, Pst.bind (rel2 := rRV Z σ) m h fun ρ1 s1 H1 ra x e n k q => ?_⟩
  refine ⟨ρ1, s1, n.sim, Pst.bind (rel2 := rRV Z σ) n.sim (q.later m n) fun ρ2 s2 H2 rb y e2 n2 k2 q2 => ?_⟩
  obtain ⟨v1, h1, q3⟩ := Pst.deref n2.sim (rRV_step n.sim n2 k) (q2.later n.sim n2)
  obtain ⟨v2, h2, q4⟩ := Pst.deref n2.sim k2 q3
  obtain ⟨r, e3, q5⟩ := Pst.res n2.sim q4
  exact ⟨ρ2, v1, v2, r, h1, h2, e3, q5⟩
theorem s_bin {a b : E} {l r : Expr} {op : Bop} {pos : Pos} (ha : PE X l (rdE Z W F a)) (hb : PE X r (rdE Z W F b)) : PE X (.BinOp l (pyOp op) r pos) (rdE Z W F (.bin op a b)) :=
  (pe_op (or_bin Z op) ha hb).impQ fun σ H Q h => rd2 (g := opBin op) (fun s => rfl) h
theorem s_cmp {a b : E} {l r : Expr} {op : Cop} {pos : Pos} (hu : X.A.units + 65 < cLine) (ha : PE X l (rdE Z W F a)) (hb : PE X r (rdE Z W F b)) (hm : behindInMarks (pyCop op) r = false) : PE X (.Compare l [pyCop op] [r] pos) (rdE Z W F (.cmp op a b)) :=
  (pe_cmpR (or_cmp Z op hu) ha hb hm).impQ fun σ H Q h => rd2 (g := cmpR op) (fun s => rfl) h
theorem s_ix {a b : E} {l r : Expr} {pos : Pos} (ha : PE X l (rdE Z W F a)) (hb : PE X r (rdE Z W F b)) (hs : PlainIx r) : PE X (.Subscript l r pos) (rdE Z W F (.ix a b)) :=
  (pe_ix (or_ix Z) ha hb hs).impQ fun σ H Q h => rd2 (g := ixR) (fun s => rfl) h
theorem s_var {i : Nat} {x : Str} {pos : Pos} (hN : X.N[i]? = some x) (hv : Vis X.env.scope x) (hd : (x == ("__debug__" : Str)) = false) (hcd : (x == ("__classdict__" : Str)) = false) : PE X (.Name x pos) (rdE Z W F (.var i)) := by
  refine (pe_var hN hv hd hcd).impQ fun σ H Q h => ?_
  obtain ⟨ρ, s, m, h⟩ := h
  have h : Pst Z W (rRV Z σ) ρ s σ H (match slotAt i s with
    | .fr v => R.ok (.fr v) s
    | .own _ => .ok (.sl i) s
    | .no => .bad) Q := h
  cases e : slotAt i s with
  | no => rw [e] at h; exact False.elim h
  | fr v =>
    rw [e] at h
    obtain ⟨x, e1, e2⟩ := m.fr i v (slot_get e (fun z => nomatch z))
    exact ⟨x, e1, h ρ H x (.refl m) e2⟩
  | own v =>
    rw [e] at h
    obtain ⟨a, e1, e2⟩ := m.own i v (slot_get e (fun z => nomatch z))
    exact ⟨_, e1, h ρ H _ (.refl m) e1⟩
theorem s_cst {e : Expr} {v : PV} {x : V} (he : PE X e (tC x)) (hr : ∀ ρ H, Rp Z ρ H v x) : PE X e (rdE Z W F (.cst v)) := by
  refine he.impQ fun σ H Q h => ?_
  obtain ⟨ρ, s, m, h⟩ := h
  exact h ρ H x (.refl m) (hr ρ H)
/-- a truth value -/
theorem rd_B {c : E} {σ : Sg} {H : Hp} {Q : Bool → Hp → Prop} (h : rdB Z W F c σ H Q) : rdE Z W F c σ H fun x H1 => ∃ b, x = .bl b ∧ Q b H1 := by
  obtain ⟨ρ, s, m, h⟩ := h
  refine ⟨ρ, s, m, Pst.bind (rel2 := rEq Bool) m h fun ρ1 s1 H1 ra x e n k q => ?_⟩
  have q := q.later m n
  cases ra with
  | fr v =>
    cases v with
    | bl b =>
      have k : Rp Z ρ1 H1 (.bl b) x := k
      cases k
      exact ⟨b, rfl, q ρ1 H1 b (.refl n.sim) rfl⟩
    | _ => exact False.elim q
  | _ => exact False.elim q
theorem rd_I {α ξ : Type} {rel : Rl α ξ} {c : E} {f : Int → M α} {ρ : List Addr} {s : Sta} {σ : Sg} {H : Hp} {Q : ξ → Hp → Prop} {Qm : VK} (m : Sim Z ρ s σ H) (h : Pst Z W rel ρ s σ H ((dE F c >>= fun x => rvI x >>= f) s) Q)
    (k : ∀ ρ1 s1 H1 i, Nxt Z ρ s σ H ρ1 s1 H1 → Pst Z W rel ρ s σ H (f i s1) Q → Qm (.int i) H1) : Pst Z W (rRV Z σ) ρ s σ H (dE F c s) Qm := by
  refine Pst.bind (rel2 := rel) m h fun ρ1 s1 H1 ra x e n r q => ?_
  cases ra with
  | fr v =>
    cases v with
    | int b =>
      have r : Rp Z ρ1 H1 (.int b) x := r
      cases r
      exact k ρ1 s1 H1 b n q
    | _ => exact False.elim q
  | _ => exact False.elim q
theorem s_neg {a : E} {l : Expr} {pos : Pos} (ha : PE X l (rdE Z W F a)) : PE X (.UnaryOp .USub l pos) (rdE Z W F (.neg a)) := by
  refine (pe_un un_neg ha).impQ fun σ H Q h => ?_
  obtain ⟨ρ, s, m, h⟩ := h
  refine ⟨ρ, s, m, rd_I (rel := rRV Z σ) (f := fun i => pure (RV.fr (.int (-i)))) m h fun ρ1 s1 H1 i n q => ?_⟩
  exact ⟨i, rfl, q ρ1 H1 _ n (Rp.int _)⟩
/-- a truth value comes, then b -/
theorem rd_Bk {c : E} {α ξ : Type} {rel : Rl α ξ} {f : Bool → M α} {ρ : List Addr} {s : Sta} {σ : Sg} {H : Hp} {Q : ξ → Hp → Prop} {Qm : VK} (m : Sim Z ρ s σ H) (h : Pst Z W rel ρ s σ H (((dE F c >>= rvB) >>= f) s) Q)
    (k : ∀ ρ1 s1 H1 b, Nxt Z ρ s σ H ρ1 s1 H1 → Pst Z W rel ρ s σ H (f b s1) Q → Qm (.bl b) H1) : Pst Z W (rRV Z σ) ρ s σ H (dE F c s) Qm := by
  have h : Pst Z W rel ρ s σ H (((dE F c s).bind rvB).bind f) Q := h
  cases e : dE F c s with
  | bad => rw [e] at h; exact h
  | exc c' s' => rw [e] at h; exact h
  | ok ra s1 =>
    rw [e] at h
    intro ρ1 H1 x n r
    cases ra with
    | fr v =>
      cases v with
      | bl b =>
        have r : Rp Z ρ1 H1 (.bl b) x := r
        cases r
        exact k ρ1 s1 H1 b n h
      | _ => exact False.elim h
    | _ => exact False.elim h
theorem s_not {a : E} {l : Expr} {pos : Pos} (ha : PE X l (rdE Z W F a)) : PE X (.UnaryOp .Not l pos) (rdE Z W F (.nt a)) := by
  refine (pe_not ha).impQ fun σ H Q h => ?_
  obtain ⟨ρ, s, m, h⟩ := h
  exact ⟨ρ, s, m, rd_Bk (rel := rRV Z σ) (f := fun b => pure (RV.fr (.bl (!b)))) m h fun ρ1 s1 H1 b n q => ⟨b, rfl, q ρ1 H1 _ n (Rp.bl _)⟩⟩
theorem t_not {a : E} {l : Expr} {pos : Pos} (ha : PT X l (rdB Z W F a)) : PT X (.UnaryOp .Not l pos) (rdB Z W F (.nt a)) := by
  refine (pt_not ha).impQ fun σ H Q h => ?_
  obtain ⟨ρ, s, m, h⟩ := h
  refine ⟨ρ, s, m, ?_⟩
  have h : Pst Z W (rEq Bool) ρ s σ H ((((dE F a >>= rvB) s).bind fun b => pure (RV.fr (.bl (!b)))).bind rvB) Q := h
  cases e : (dE F a >>= rvB) s with
  | bad => rw [e] at h; exact h
  | exc c' s' => rw [e] at h; exact h
  | ok b s1 => rw [e] at h; exact fun ρ1 H1 x n r => h ρ1 H1 _ n (by rw [← r]; rfl)
theorem R.bind_bind {α β γ : Type} (r : R α) (f : α → M β) (g : β → M γ) : (r.bind f).bind g = r.bind fun a s => (f a s).bind g := by
  cases r <;> rfl
theorem s_and {a b : E} {l : Expr} {vs : List Expr} {v : Expr} {pos : Pos} (ha : PE X l (rdE Z W F a)) (hb : PE X (.BoolOp .And (v :: vs) pos) (rdE Z W F b)) : PE X (.BoolOp .And (l :: v :: vs) pos) (rdE Z W F (.an a b)) := by
  refine (pe_and ha hb).impQ fun σ H Q h => ?_
  obtain ⟨ρ, s, m, h⟩ := h
  refine ⟨ρ, s, m, rd_Bk (rel := rRV Z σ) (f := fun x => if x then (do let y ← dE F b >>= rvB; pure (RV.fr (.bl y))) else pure (RV.fr (.bl false))) m h fun ρ1 s1 H1 c n q => ⟨c, rfl, ?_⟩⟩
  cases c with
  | false => exact q ρ1 H1 _ n (Rp.bl _)
  | true => exact ⟨ρ1, s1, n.sim, rd_Bk (rel := rRV Z σ) (f := fun y => pure (RV.fr (.bl y))) n.sim (Pst.later m n q) fun ρ2 s2 H2 y n2 q2 => q2 ρ2 H2 _ n2 (Rp.bl _)⟩
theorem s_or {a b : E} {l : Expr} {vs : List Expr} {v : Expr} {pos : Pos} (ha : PE X l (rdE Z W F a)) (hb : PE X (.BoolOp .Or (v :: vs) pos) (rdE Z W F b)) : PE X (.BoolOp .Or (l :: v :: vs) pos) (rdE Z W F (.orr a b)) := by
  refine (pe_or ha hb).impQ fun σ H Q h => ?_
  obtain ⟨ρ, s, m, h⟩ := h
  refine ⟨ρ, s, m, rd_Bk (rel := rRV Z σ) (f := fun x => if x then pure (RV.fr (.bl true)) else (do let y ← dE F b >>= rvB; pure (RV.fr (.bl y)))) m h fun ρ1 s1 H1 c n q => ⟨c, rfl, ?_⟩⟩
  cases c with
  | true => exact q ρ1 H1 _ n (Rp.bl _)
  | false => exact ⟨ρ1, s1, n.sim, rd_Bk (rel := rRV Z σ) (f := fun y => pure (RV.fr (.bl y))) n.sim (Pst.later m n q) fun ρ2 s2 H2 y n2 q2 => q2 ρ2 H2 _ n2 (Rp.bl _)⟩
theorem t_and {a b : E} {l : Expr} {vs : List Expr} {v : Expr} {pos : Pos} (ha : PT X l (rdB Z W F a)) (hb : PW X (.BoolOp .And (v :: vs) pos) (rdB Z W F b)) : PW X (.BoolOp .And (l :: v :: vs) pos) (rdB Z W F (.an a b)) := by
  refine (pw_and ha hb).impQ fun σ H Q h => ?_
  obtain ⟨ρ, s, m, h⟩ := h
  have h : Pst Z W (rEq Bool) ρ s σ H ((((dE F a >>= rvB) s).bind fun x => if x then (do let y ← dE F b >>= rvB; pure (RV.fr (.bl y))) else pure (RV.fr (.bl false))).bind rvB) Q := h
  rw [R.bind_bind] at h
  refine ⟨ρ, s, m, Pst.bind (rel2 := rEq Bool) m h fun ρ1 s1 H1 c x e n k q => ?_⟩
  cases k
  cases c with
  | false => exact q ρ1 H1 _ n rfl
  | true =>
    refine ⟨ρ1, s1, n.sim, ?_⟩
    have q : Pst Z W (rEq Bool) ρ s σ H ((((dE F b >>= rvB) s1).bind fun y => pure (RV.fr (.bl y))).bind rvB) Q := q
    rw [R.bind_bind] at q
    exact Pst.bind (rel2 := rEq Bool) n.sim (Pst.later m n q) fun ρ2 s2 H2 y x e n2 k q2 => by
      cases k
      exact q2 ρ2 H2 _ n2 rfl
theorem t_or {a b : E} {l : Expr} {vs : List Expr} {v : Expr} {pos : Pos} (ha : PT X l (rdB Z W F a)) (hb : PW X (.BoolOp .Or (v :: vs) pos) (rdB Z W F b)) : PW X (.BoolOp .Or (l :: v :: vs) pos) (rdB Z W F (.orr a b)) := by
  refine (pw_or ha hb).impQ fun σ H Q h => ?_
  obtain ⟨ρ, s, m, h⟩ := h
  have h : Pst Z W (rEq Bool) ρ s σ H ((((dE F a >>= rvB) s).bind fun x => if x then pure (RV.fr (.bl true)) else (do let y ← dE F b >>= rvB; pure (RV.fr (.bl y)))).bind rvB) Q := h
  rw [R.bind_bind] at h
  refine ⟨ρ, s, m, Pst.bind (rel2 := rEq Bool) m h fun ρ1 s1 H1 c x e n k q => ?_⟩
  cases k
  cases c with
  | true => exact q ρ1 H1 _ n rfl
  | false =>
    refine ⟨ρ1, s1, n.sim, ?_⟩
    have q : Pst Z W (rEq Bool) ρ s σ H ((((dE F b >>= rvB) s1).bind fun y => pure (RV.fr (.bl y))).bind rvB) Q := q
    rw [R.bind_bind] at q
    exact Pst.bind (rel2 := rEq Bool) n.sim (Pst.later m n q) fun ρ2 s2 H2 y x e n2 k q2 => by
      cases k
      exact q2 ρ2 H2 _ n2 rfl
theorem s_ite {c a b : E} {l r t : Expr} {pos : Pos} (hc : PT X t (rdB Z W F c)) (ha : PE X l (rdE Z W F a)) (hb : PE X r (rdE Z W F b)) : PE X (.IfExp t l r pos) (rdE Z W F (.ite c a b)) := by
  refine (pe_ifExp hc ha hb).impQ fun σ H Q h => ?_
  obtain ⟨ρ, s, m, h⟩ := h
  have h : Pst Z W (rRV Z σ) ρ s σ H (((dE F c >>= rvB) s).bind fun x => if x then dE F a else dE F b) Q := h
  refine ⟨ρ, s, m, Pst.bind (rel2 := rRV Z σ) m h fun ρ1 s1 H1 y x e n k q => ?_⟩
  cases k
  cases y with
  | true => exact ⟨ρ1, s1, n.sim, Pst.later m n q⟩
  | false => exact ⟨ρ1, s1, n.sim, Pst.later m n q⟩
/-- the value as a test -/
theorem t_val {c : E} {e : Expr} (h : PE X e (rdE Z W F c)) (he : ∀ whole, isTrue e X.env whole = (do let v ← whole; standAt e.pos; holding [v] (truthy v))) : PT X e (rdB Z W F c) :=
  (pt_val h he).impQ fun σ H Q h => rd_B h
theorem t_cmp {a b : E} {l r : Expr} {op : Cop} {pos : Pos} (hu : X.A.units + 65 < cLine) (ha : PE X l (rdE Z W F a)) (hb : PE X r (rdE Z W F b)) (hm : behindInMarks (pyCop op) r = false) : PT X (.Compare l [pyCop op] [r] pos) (rdB Z W F (.cmp op a b)) := by
  refine (pt_cmpR (or_cmp Z op hu) ha hb hm).impQ fun σ H Q h => ?_
  exact rd2 (c := .cmp op a b) (g := cmpR op) (fun s => rfl) (rd_B h)
/-! ### chains -/
theorem rdch {a b c : E} {o p : Cop} {σ : Sg} {H : Hp} {Q : VK} (h : rdE Z W F (.chn o p a b c) σ H Q) : tChain (r2 Z (cmpR o)) (r2 Z (cmpR p)) (rdE Z W F a) (rdE Z W F b) (rdE Z W F c) σ H Q := by
  obtain ⟨ρ, s, m, h⟩ := h
  have h : Pst Z W (rRV Z σ) ρ s σ H ((do
    let x ← dE F a
    let ry ← dE F b
    let x ← deref x
    let y ← deref ry
    let r ← M.ofO (opCmp o x y)
    if r then do
      let z ← dE F c
      let y ← deref ry
      let z ← deref z
      M.ofO (cmpR p y z)
    else pure (.fr (.bl false)) : M RV) s) Q := h
  refine ⟨ρ, s, m, Pst.bind (rel2 := rRV Z σ) m h fun ρ1 s1 H1 ra x e n k q => ?_⟩
  refine ⟨ρ1, s1, n.sim, Pst.bind (rel2 := rRV Z σ) n.sim (q.later m n) fun ρ2 s2 H2 rb y e2 n2 k2 q2 => ?_⟩
  obtain ⟨v1, h1, q3⟩ := Pst.deref n2.sim (rRV_step n.sim n2 k) (q2.later n.sim n2)
  obtain ⟨v2, h2, q4⟩ := Pst.deref n2.sim k2 q3
  cases e3 : opCmp o v1 v2 with
  | none => rw [e3] at q4; exact False.elim q4
  | some d =>
    rw [e3] at q4
    refine ⟨ρ2, v1, v2, .fr (.bl d), h1, h2, by unfold cmpR; rw [e3]; rfl, fun H3 z hs hr => ?_⟩
    have hr : Rp Z ρ2 H3 (.bl d) z := hr
    cases hr
    refine ⟨d, rfl, ?_⟩
    have n3 := Nxt.same n2.sim hs
    cases d with
    | false =>
      rw [if_neg Bool.false_ne_true]
      exact q4 ρ2 H3 _ n3 (Rp.bl _)
    | true =>
      rw [if_pos rfl]
      have k3 := rRV_step n2.sim n3 k2
      refine ⟨ρ2, s2, n3.sim, Pst.bind (rel2 := rRV Z σ) n3.sim (Pst.later n2.sim n3 q4) fun ρ4 s4 H4 rc z e4 n4 k4 q5 => ?_⟩
      obtain ⟨v4, h4, q6⟩ := Pst.deref n4.sim (rRV_step n3.sim n4 k3) (q5.later n3.sim n4)
      obtain ⟨v3, h3, q7⟩ := Pst.deref n4.sim k4 q6
      obtain ⟨r, e5, q8⟩ := Pst.res n4.sim q7
      exact ⟨ρ4, v4, v3, r, h4, h3, e5, q8⟩
theorem s_chn {a b c : E} {l r t : Expr} {o p : Cop} {pos : Pos} (hu : X.A.units + 65 < cLine) (ha : PE X l (rdE Z W F a)) (hb : PE X r (rdE Z W F b)) (hc : PE X t (rdE Z W F c)) (h2 : behindInMarks (pyCop p) t = false) :
    PE X (.Compare l [pyCop o, pyCop p] [r, t] pos) (rdE Z W F (.chn o p a b c)) :=
  (pe_chain (or_cmp Z o hu) (or_cmp Z p hu) ha hb hc h2).impQ fun σ H Q h => rdch h
theorem t_chn {a b c : E} {l r t : Expr} {o p : Cop} {pos : Pos} (hu : X.A.units + 65 < cLine) (ha : PE X l (rdE Z W F a)) (hb : PE X r (rdE Z W F b)) (hc : PE X t (rdE Z W F c)) (h2 : behindInMarks (pyCop p) t = false) :
    PT X (.Compare l [pyCop o, pyCop p] [r, t] pos) (rdB Z W F (.chn o p a b c)) :=
  (pt_chain (or_cmp Z o hu) (or_cmp Z p hu) ha hb hc h2).impQ fun σ H Q h => rdch (rd_B h)
/-! ### slices -/
theorem o_nil : PO X none (rdO Z W F .nil) := by
  refine po_none.impQ fun σ H Q h => ?_
  obtain ⟨ρ, s, m, h⟩ := h
  exact h ρ H _ (.refl m) rfl
theorem o_some {a : E} {e : Expr} (hn : a ≠ .nil) (ha : PE X e (rdE Z W F a)) : PO X (some e) (rdO Z W F a) := by
  refine (po_some ha).impQ fun σ H Q h => ?_
  obtain ⟨ρ, s, m, h⟩ := h
  have e1 : partO a (dE F a) = (do let x ← dE F a; let i ← rvI x; pure (some i) : M (Option Int)) := by
    cases a <;> first | rfl | exact absurd rfl hn
  rw [e1] at h
  exact ⟨ρ, s, m, rd_I (rel := rEq (Option Int)) (f := fun i => pure (some i)) m h fun ρ1 s1 H1 i n q => ⟨i, rfl, q ρ1 H1 _ n rfl⟩⟩
theorem s_sl {a lo hi : E} {e : Expr} {l h : Option Expr} {p2 pos : Pos} (ha : PE X e (rdE Z W F a)) (hl : PO X l (rdO Z W F lo)) (hh : PO X h (rdO Z W F hi)) : PE X (.Subscript e (.Slice l h none p2) pos) (rdE Z W F (.sl a lo hi)) := by
  refine (pe_slice (or_sl Z) ha hl hh).impQ fun σ H Q h => ?_
  obtain ⟨ρ, s, m, h⟩ := h
  have h : Pst Z W (rRV Z σ) ρ s σ H ((do
    let x ← dE F a
    let l ← partO lo (dE F lo)
    let h ← partO hi (dE F hi)
    let x ← deref x
    M.ofO (opSl x l h) : M RV) s) Q := h
  refine ⟨ρ, s, m, Pst.bind (rel2 := rRV Z σ) m h fun ρ1 s1 H1 ra x e n k q => ?_⟩
  refine ⟨ρ1, s1, n.sim, Pst.bind (rel2 := rRV Z σ) n.sim (q.later m n) fun ρ2 s2 H2 l l' e2 n2 k2 q2 => ?_⟩
  cases k2
  refine ⟨ρ2, s2, n2.sim, Pst.bind (rel2 := rRV Z σ) n2.sim (q2.later n.sim n2) fun ρ3 s3 H3 h h' e3 n3 k3 q3 => ?_⟩
  cases k3
  obtain ⟨v1, h1, q4⟩ := Pst.deref n3.sim (rRV_step n2.sim n3 (rRV_step n.sim n2 k)) (q3.later n2.sim n3)
  obtain ⟨r, e4, q5⟩ := Pst.res n3.sim q4
  exact ⟨ρ3, v1, r, h1, e4, q5⟩
theorem rev_pick (xs : Array Value) : ((List.range xs.size).filterMap fun (k : Nat) => xs[(((xs.size : Int) - 1) + (k : Int) * (-1)).toNat]?).toArray = xs.toList.reverse.toArray := by
  congr 1
  apply List.ext_getElem?
  intro i
  have key : ∀ n : Nat, n ≤ xs.size → ((List.range n).filterMap fun (k : Nat) => xs[(((xs.size : Int) - 1) + (k : Int) * (-1)).toNat]?) = xs.toList.reverse.take n := by
    intro n
    induction n with
    | zero => intro _; simp
    | succ n ih =>
      intro hn
      rw [List.range_succ, List.filterMap_append, ih (by omega)]
      have e : (((xs.size : Int) - 1) + (n : Int) * (-1)).toNat = xs.size - 1 - n := by omega
      have lt : xs.size - 1 - n < xs.size := by omega
      have hr : xs.toList.reverse[n]? = some xs[xs.size - 1 - n] := by
        rw [List.getElem?_reverse (by rw [Array.length_toList]; omega), Array.length_toList, Array.getElem?_toList]
        exact Array.getElem?_eq_getElem lt
      rw [List.take_add_one, hr]
      congr 1
      simp only [List.filterMap_cons, List.filterMap_nil, e, Array.getElem?_eq_getElem lt]
      rfl
  rw [key xs.size (Nat.le_refl _), List.take_of_length_le (by simp)]
theorem adj_rev (n : Nat) : Builtin.Slice.sliceAdjust none none (-1) (n : Int) = ((n : Int) - 1, -1) := rfl
theorem places_rev (n : Nat) : Builtin.Slice.slicePlaces ((n : Int) - 1) (-1) (-1) = n := by
  unfold Builtin.Slice.slicePlaces
  rw [if_neg (by decide)]
  by_cases h : (n : Int) - 1 > -1
  · rw [if_pos h]
    have : ((n : Int) - 1 - -1 - 1) / (- -1) = (n : Int) - 1 := by
      have : (- -1 : Int) = 1 := rfl
      rw [this, Int.ediv_one]
      omega
    rw [this]
    omega
  · rw [if_neg h]
    omega
theorem getItem_tuple_rev {prog : Program} {w : World} {A : Around} {E : Value → Shared → Prop} {s : Shared} {t sl : Addr} {items : Array Value} {vs : Value} {Q : Value → Shared → Prop} (ht : IsTup s.heap t items) (hs : s.heap.IsSliceOf sl .none .none vs) (ps : IsPart vs (some (-1)))
    (h : Q (.ref s.heap.objs.size) { s with heap := s.heap.push { cls := .type "tuple", data := .seq items.toList.reverse.toArray } })
    (hsz : items.size ≤ sizeLine) : wpAny (model prog w) A (getItem (.ref t) (.ref sl)) Q E s := by
  have htake : sizeOk (.seq items.toList.reverse.toArray) := by
    show items.toList.reverse.toArray.size ≤ sizeLine
    rw [List.size_toArray, List.length_reverse, Array.length_toList]
    exact hsz
  obtain ⟨os, hos, hcs, hds⟩ := id hs
  have hTs : s.TypeIs (.ref sl) "slice" := ⟨os, hos, hcs⟩
  unfold getItem
  try with_reducible refine wpAny_holding ?_
  first | refine wpAny_bind (wpAny_pure ?_) | skip
  refine wpAny_bind (wpAny_sequenceKey ht.typeIs (by decide) ?_)
  refine wpAny_bind (wpAny_callSpecial?_slot (name := Str.ofString "__getitem__") ht.typeIs PyProof.Rows.slot_tuple_getitem
    (wpAny_call_entry PyProof.Rows.slot_tuple_getitem ht.typeIs entry_tuple_getitem ?_ (args_tuple_getitem _ _)))
  show wpAny _ _ (Builtin.Tuple.tupleItemsOf (.ref t) >>= _) _ _ s
  refine wpAny_bind (tupleItemsOf_ ht ?_)
  refine wpAny_bind (wpAny_typeOf hTs ?_)
  rw [if_pos (by decide)]
  have app : ∀ {A : Around} {Q : Int × Int × Nat → Shared → Prop}, Q ((items.size : Int) - 1, -1, items.size) s → wpAny (model prog w) A (Builtin.Slice.sliceApplied (.ref sl) (pure (items.size : Int))) Q E s := by
    intro A Q hq
    unfold Builtin.Slice.sliceApplied Builtin.Slice.sliceFields
    refine wpAny_bind (wpAny_bind (wpAny_field hos hds (x := .none) rfl (wpAny_bind (wpAny_field hos hds (x := .none) rfl (wpAny_bind (wpAny_field hos hds (x := vs) rfl (wpAny_pure ?_)))))))
    refine wpAny_bind (HT.slicePart_ ps ?_)
    show wpAny _ _ (if ((-1 : Int) == 0) = true then _ else _) _ _ s
    rw [if_neg (by decide)]
    refine wpAny_bind (slicePart_none (wpAny_bind (slicePart_none (wpAny_bind (wpAny_pure ?_)))))
    show wpAny _ _ (match Builtin.Slice.sliceAdjust none none (-1) (items.size : Int) with | (lo, hi) => pure (lo, (-1 : Int), Builtin.Slice.slicePlaces lo hi (-1))) _ _ s
    rw [adj_rev]
    show wpAny _ _ (pure ((items.size : Int) - 1, (-1 : Int), Builtin.Slice.slicePlaces ((items.size : Int) - 1) (-1) (-1))) _ _ s
    rw [places_rev]
    exact wpAny_pure hq
  refine wpAny_bind (app ?_)
  show wpAny _ _ (if (((items.size : Int) - 1) == 0 && (-1 : Int) == 1 && items.size == items.size) = true then _ else _) _ _ s
  rw [if_neg (by simp), rev_pick]
  first
    | exact wpAny_bind (m := Builtin.Tuple.tupleExact _) (wpAny_newObj_type (wpAny_pure ⟨_, rfl, wpAny_pure h⟩) htake)
    | exact wpAny_bind (m := Builtin.Tuple.tupleExact _) (wpAny_newObj_type (wpAny_bind (wpAny_pure (wpAny_pure ⟨_, rfl, wpAny_pure h⟩))) htake)
    | exact wpAny_bind (wpAny_bind (m := Builtin.Tuple.tupleExact _) (wpAny_newObj_type (wpAny_pure (wpAny_pure ⟨_, rfl, wpAny_pure h⟩)) htake))
    | exact wpAny_bind (wpAny_bind (m := Builtin.Tuple.tupleExact _) (wpAny_newObj_type (wpAny_pure ⟨_, rfl, wpAny_pure h⟩) htake))
theorem s_rev {a : E} {e : Expr} {k : Nat} {p1 p2 p3 pos : Pos} (he : PE X e (rdE Z W F a)) : PE X (.Subscript e (.Slice none none (some (.UnaryOp .USub (.Constant (.int 1) k p1) p2)) p3) pos) (rdE Z W F (.rev a)) := by
  refine ⟨fun pins s σ H Q I h => ?_⟩
  refine Subscript_ (thn (he.run pins s σ H (fun x H1 => ∃ ρ u r, Rd1 Z ρ H1 u x ∧ opRev u = some r ∧ Res Z ρ H1 r Q) I ?_) fun v s1 ⟨x, H1, I1, r1, q1⟩ => ?_)
  · obtain ⟨ρ, st, m, h⟩ := h
    have h : Pst Z W (rRV Z σ) ρ st σ H ((do
      let x ← dE F a
      let x ← deref x
      M.ofO (opRev x) : M RV) st) Q := h
    refine ⟨ρ, st, m, Pst.bind (rel2 := rRV Z σ) m h fun ρ1 s1 H1 ra x e n k q => ?_⟩
    obtain ⟨v1, h1, q4⟩ := Pst.deref n.sim k (q.later m n)
    obtain ⟨r, e4, q5⟩ := Pst.res n.sim q4
    exact ⟨ρ1, v1, r, h1, e4, q5⟩
  · obtain ⟨ρ, u, r, hu, hr, q⟩ := q1
    have hst : PO X (some (.UnaryOp .USub (.Constant (.int 1) k p1) p2)) (tPart (tUn (rU fun i => .int (-i)) (tC (.int 1)))) := po_some (pe_un un_neg pe_int)
    refine wpAny_Slice (thn (po_none.run pins s1 σ H1 (fun o H2 => o = none ∧ H2 = H1) I1 ⟨rfl, rfl⟩) fun vl s2 ⟨l, H2, I2, pl, el, e2⟩ => ?_)
    subst el e2
    refine thn (po_none.run pins s2 σ H2 (fun o H3 => o = none ∧ H3 = H2) I2 ⟨rfl, rfl⟩) fun vu s3 ⟨u2, H3, I3, pu, eu, e3⟩ => ?_
    subst eu e3
    refine thn (hst.run pins s3 σ H3 (fun o H4 => o = some (-1) ∧ H4 = H3) I3 ⟨1, rfl, -1, rfl, rfl, rfl⟩) fun vs s4 ⟨o, H4, I4, ps, eo, e4⟩ => ?_
    subst eo e4
    have I5 : Inv X pins σ H4 { s4 with heap := s4.heap.push { cls := .type "slice", data := .fields #[vl, vu, vs] } } := I4.kept (t' := s4.toks) fun b ob q => Heap.get?_push_of_some _ q
    unfold opRev at hr
    split at hr
    · cases hr
      obtain ⟨p, ws, rfl, hp, rp⟩ := hu.lst
      cases r1
      obtain ⟨its, r, ht, hz⟩ := I5.list (.inl hp)
      have hlen := r.length
      show wpAny (model X.prog X.w) X.A (subscriptTail e (.Slice none none (some (.UnaryOp .USub (.Constant (.int 1) k p1) p2)) p3) (.ref p) (.ref s4.heap.objs.size)) (EP X pins σ Q) X.xe { s4 with heap := s4.heap.push { cls := .type "slice", data := .fields #[vl, vu, vs] } }
      refine tail_any (ops := [.ref p, .ref s4.heap.objs.size]) ht.isList.typeIs (PySem.slot_list_getitem.lookup) ?_ (by with_unfolding_all rfl)
      refine wpAny_getItem_list_slice ht.isList (Heap.IsSliceOf.new _ vl vu vs) pl pu ps (by decide) ?_ (by rw [List.size_toArray]; omega)
      rw [PySem.W.krv_pick]
      refine ⟨.ref _, _, I5.laid (t' := s4.toks) (o := .lst ws.reverse) (fun b ob q => Heap.get?_push_of_some _ q) (Nat.le_refl _) ?_, rfl, q.newL (I5.hok.fresh (Nat.le_refl _)) rp.reverse⟩
      exact ⟨by rw [List.length_reverse]; exact hz, _, 0, r.reverse, Heap.get?_push_size _ rfl⟩
    · cases hr
      obtain ⟨p, ws, rfl, hp, rp⟩ := hu.tup
      cases r1
      obtain ⟨its, r, ht, hz⟩ := I5.tuple (.inl (.inl hp))
      have hlen := r.length
      show wpAny (model X.prog X.w) X.A (subscriptTail e (.Slice none none (some (.UnaryOp .USub (.Constant (.int 1) k p1) p2)) p3) (.ref p) (.ref s4.heap.objs.size)) (EP X pins σ Q) X.xe { s4 with heap := s4.heap.push { cls := .type "slice", data := .fields #[vl, vu, vs] } }
      refine tail_any (ops := [.ref p, .ref s4.heap.objs.size]) ht.typeIs (PyProof.Rows.slot_tuple_getitem.lookup) ?_ (by with_unfolding_all rfl)
      cases pl
      cases pu
      refine getItem_tuple_rev ht (Heap.IsSliceOf.new _ _ _ vs) ps ?_ (by rw [List.size_toArray]; omega)
      refine ⟨.ref _, _, I5.laid (t' := s4.toks) (o := .tup ws.reverse) (fun b ob q => Heap.get?_push_of_some _ q) (Nat.le_refl _) ?_, rfl, q.newT (I5.hok.fresh (Nat.le_refl _)) rp.reverse⟩
      exact ⟨by rw [List.length_reverse]; exact hz, _, r.reverse, IsTup.new _ _⟩
    · cases hr
end
end Qv
end
section
set_option Elab.async false
set_option linter.all false
set_option autoImplicit false
set_option maxRecDepth 100000
set_option maxHeartbeats 1000000
/-! Q8: arguments, displays, calls. -/
namespace Qv
open PySem PySem.Spec PyProof.Rows L2
/-- no star -/
def plainE : Expr → Bool
  | .Starred _ _ => false
  | _ => true
theorem star_cons {e : Expr} {es : List Expr} {env : Env} (h : plainE e = true) : starEach (e :: es) env = (false, eval e env) :: starEach es env := by
  cases e <;> first | rfl | cases h
theorem star_any {es : List Expr} {env : Env} {pos : Pos} (h : es.all plainE = true) : (backTo pos (starEach es env)).any (·.1) = false := by
  induction es with
  | nil => rfl
  | cons e es ih =>
    rw [List.all_cons, Bool.and_eq_true] at h
    rw [star_cons h.1]
    show (false || (backTo pos (starEach es env)).any (·.1)) = false
    rw [ih h.2]
    rfl
section
variable {Z : Nm} {W : WX} {F : FT} {X : Cx}
theorem a_nil : PA X [] (rdA Z W F .nil) := by
  refine pa_nil.impQ fun σ H Q h => ?_
  obtain ⟨ρ, s, m, h⟩ := h
  exact h ρ H [] (.refl m) Rps.nil
theorem a_cons {a as : E} {e : Expr} {es : List Expr} (ha : PE X e (rdE Z W F a)) (hs : PA X es (rdA Z W F as)) (hp : plainE e = true) : PA X (e :: es) (rdA Z W F (.cons a as)) := by
  refine (pa_cons (PE.frz ha) hs (star_cons hp)).impQ fun σ H Q h => ?_
  obtain ⟨ρ, s, m, h⟩ := h
  have h : Pst Z W (rPs Z) ρ s σ H (((dE F a >>= frz) s).bind fun x => (do let xs ← dA F as; pure (x :: xs))) Q := by
    have h : Pst Z W (rPs Z) ρ s σ H ((dE F a s).bind fun x s => (frz x s).bind fun x => (do let xs ← dA F as; pure (x :: xs))) Q := h
    rw [← R.bind_bind] at h
    exact h
  refine ⟨ρ, s, m, Pst.bind (rel2 := rPs Z) m h fun ρ1 s1 H1 v x e n k q => ?_⟩
  refine ⟨ρ1, s1, n.sim, Pst.bind (rel2 := rPs Z) (f := fun xs => pure (v :: xs)) n.sim (q.later m n) fun ρ2 s2 H2 vs xs e2 n2 k2 q2 => ?_⟩
  exact q2 ρ2 H2 (x :: xs) n2 (Rps.cons (Rp.mono (n2.kp n.sim) k) k2)
theorem d_nil : PA X [] (rdD Z W F .nil) := by
  refine pa_nil.impQ fun σ H Q h => ?_
  obtain ⟨ρ, s, m, h⟩ := h
  exact h ρ H [] (.refl m) Rds.nil
theorem d_cons {a as : E} {e : Expr} {es : List Expr} (ha : PE X e (rdE Z W F a)) (hs : PA X es (rdD Z W F as)) (hp : plainE e = true) : PA X (e :: es) (rdD Z W F (.cons a as)) := by
  refine (pa_cons ha hs (star_cons hp)).impQ fun σ H Q h => ?_
  obtain ⟨ρ, s, m, h⟩ := h
  have h : Pst Z W (rRd Z) ρ s σ H ((dE F a s).bind fun x => (do let xs ← dD F as; let x ← deref x; pure (x :: xs))) Q := h
  refine ⟨ρ, s, m, Pst.bind (rel2 := rRd Z) m h fun ρ1 s1 H1 r x e n k q => ?_⟩
  refine ⟨ρ1, s1, n.sim, Pst.bind (rel2 := rRd Z) (f := fun xs => (do let x ← deref r; pure (x :: xs))) n.sim (q.later m n) fun ρ2 s2 H2 vs xs e2 n2 k2 q2 => ?_⟩
  obtain ⟨v, h1, q3⟩ := Pst.deref n2.sim (rRV_step n.sim n2 k) (q2.later n.sim n2)
  exact q3 ρ2 H2 (x :: xs) (.refl n2.sim) (Rds.cons h1 k2)
theorem Pst.assoc {α β γ ξ : Type} {rel : Rl γ ξ} {ρ : List Addr} {s : Sta} {σ : Sg} {H : Hp} {Q : ξ → Hp → Prop} {r : R α} {f : α → M β} {g : β → M γ} (h : Pst Z W rel ρ s σ H ((r.bind f).bind g) Q) : Pst Z W rel ρ s σ H (r.bind fun a s => (f a s).bind g) Q := by
  rw [R.bind_bind] at h
  exact h
theorem Pst.unassoc {α β γ ξ : Type} {rel : Rl γ ξ} {ρ : List Addr} {s : Sta} {σ : Sg} {H : Hp} {Q : ξ → Hp → Prop} {r : R α} {f : α → M β} {g : β → M γ} (h : Pst Z W rel ρ s σ H (r.bind fun a s => (f a s).bind g) Q) : Pst Z W rel ρ s σ H ((r.bind f).bind g) Q := by
  rw [R.bind_bind]
  exact h
/-! ### displays -/
theorem s_tup {as : E} {es : List Expr} {k : Nat} {pos : Pos} (ha : PA X es (rdA Z W F as)) : PE X (.Tuple es k pos) (rdE Z W F (.tup as)) := by
  refine (pe_tup ha).impQ fun σ H Q h => ?_
  obtain ⟨ρ, s, m, h⟩ := h
  have h : Pst Z W (rRV Z σ) ρ s σ H ((dA F as s).bind fun vs => if lenOk vs.length then pure (RV.fr (.tup vs)) else M.bad) Q := h
  refine ⟨ρ, s, m, Pst.bind (rel2 := rRV Z σ) m h fun ρ1 s1 H1 vs xs e n k q => ?_⟩
  have q := q.later m n
  have k : Rps Z ρ1 H1 vs xs := k
  split at q
  · rename_i h1
    refine ⟨by rw [← k.length]; exact Nat.le_of_lt (lenOk_line h1), fun p hp => ?_⟩
    exact (Pst.res1 n.sim q).newT hp k
  · exact False.elim q
theorem s_lst {as : E} {es : List Expr} {pos : Pos} (ha : PA X es (rdA Z W F as)) : PE X (.List es pos) (rdE Z W F (.lst as)) := by
  refine (pe_lst ha).impQ fun σ H Q h => ?_
  obtain ⟨ρ, s, m, h⟩ := h
  have h : Pst Z W (rRV Z σ) ρ s σ H ((dA F as s).bind fun vs => if lenOk vs.length then pure (RV.own (.lst vs)) else M.bad) Q := h
  refine ⟨ρ, s, m, Pst.bind (rel2 := rRV Z σ) m h fun ρ1 s1 H1 vs xs e n k q => ?_⟩
  have q := q.later m n
  have k : Rps Z ρ1 H1 vs xs := k
  split at q
  · rename_i h1
    refine ⟨by rw [← k.length]; exact Nat.le_of_lt (lenOk_line h1), fun p hp => ?_⟩
    exact (Pst.res1 n.sim q).newL hp k
  · exact False.elim q
/-! ### built-ins -/
theorem rdbi {b : Bi} {as : E} {σ : Sg} {H : Hp} {Q : VK} (h : rdE Z W F (.bi b as) σ H Q) : rdD Z W F as σ H fun vs H1 => rBi Z b vs H1 Q := by
  obtain ⟨ρ, s, m, h⟩ := h
  have h : Pst Z W (rRV Z σ) ρ s σ H ((dD F as s).bind fun vs => M.ofO (opBi b vs)) Q := h
  refine ⟨ρ, s, m, Pst.bind (rel2 := rRV Z σ) m h fun ρ1 s1 H1 vs xs e n k q => ?_⟩
  obtain ⟨r, e2, q2⟩ := Pst.res n.sim (q.later m n)
  exact ⟨ρ1, vs, r, k, e2, q2⟩
theorem s_biF {b : Bi} {id : String} {as : E} {x : Str} {e : Expr} {es : List Expr} {p pos : Pos} (hc : X.calm = true) (hb : plainB b = true) (hi : biK b = .fn id) (hg : Gl X x) (hm : X.mg x = none) (hv : bootBuiltins x = some (.builtin id)) (ha : PA X (e :: es) (rdD Z W F as))
    (hn : x ≠ "__name__") (hdb : (x == ("__debug__" : Str)) = false) (hp : (e :: es).all plainE = true) : PE X (.Call (.Name x p) (e :: es) [] pos) (rdE Z W F (.bi b as)) := by
  have hr : CallR X (.builtin id) (rBi Z b) := by
    have := or_bi hc Z b hb
    rw [hi] at this
    exact this
  rw [List.all_cons, Bool.and_eq_true] at hp
  exact (pe_callB hr hg hm hv ha hn hdb (star_cons hp.1) (star_any hp.2)).impQ fun σ H Q h => rdbi h
theorem s_biT {b : Bi} {id : String} {as : E} {x : Str} {e : Expr} {es : List Expr} {p pos : Pos} (hc : X.calm = true) (hb : plainB b = true) (hi : biK b = .ty id) (hg : Gl X x) (hm : X.mg x = none) (hv : bootBuiltins x = some (.type id)) (ha : PA X (e :: es) (rdD Z W F as))
    (hn : x ≠ "__name__") (hdb : (x == ("__debug__" : Str)) = false) (hp : (e :: es).all plainE = true) : PE X (.Call (.Name x p) (e :: es) [] pos) (rdE Z W F (.bi b as)) := by
  have hr : CallR X (.type id) (rBi Z b) := by
    have := or_bi hc Z b hb
    rw [hi] at this
    exact this
  rw [List.all_cons, Bool.and_eq_true] at hp
  exact (pe_callTy hr hg hm hv ha hn hdb (star_cons hp.1) (star_any hp.2)).impQ fun σ H Q h => rdbi h
/-- isinstance(e, T) -/
theorem s_isA {T : Ty} {a : E} {e : Expr} {y : Str} {p p2 pos : Pos} (hg : Gl X "isinstance") (hm : X.mg "isinstance" = none) (hg2 : Gl X y) (hm2 : X.mg y = none) (hv2 : bootBuiltins y = some (.type (tyN T))) (hn2 : y ≠ "__name__") (hdb2 : (y == ("__debug__" : Str)) = false)
    (ha : PE X e (rdE Z W F a)) (hp : plainE e = true) : PE X (.Call (.Name "isinstance" p) [e, .Name y p2] [] pos) (rdE Z W F (.bi (.isA T) (.cons a .nil))) := by
  have h2 : PE X (.Name y p2) (tC (.ty (tyN T))) := pe_bltn hg2 hm2 hv2 rfl hn2 hdb2
  refine (pe_callB (call_isA Z T) hg hm (by decide +kernel) (pa_cons ha (pa_cons h2 pa_nil) (star_cons hp)) (by decide) (by decide) (star_cons hp) rfl).impQ fun σ H Q h => ?_
  obtain ⟨ρ, s, m, h⟩ := h
  have h : Pst Z W (rRV Z σ) ρ s σ H (((dE F a s).bind fun x s => (deref x s).bind fun v => (pure [v] : M (List PV))).bind fun vs => M.ofO (opBi (.isA T) vs)) Q := h
  refine ⟨ρ, s, m, Pst.bind (rel2 := rRV Z σ) m (Pst.assoc h) fun ρ1 s1 H1 r x e n k q => ?_⟩
  have q : Pst Z W (rRV Z σ) ρ s σ H ((deref r >>= fun v => M.ofO (opBi (.isA T) [v])) s1) Q := Pst.assoc q
  obtain ⟨v, h1, q2⟩ := Pst.deref n.sim k (q.later m n)
  obtain ⟨r, e2, q3⟩ := Pst.res n.sim q2
  exact ⟨x, rfl, ρ1, [v], r, .cons h1 .nil, e2, q3⟩

/-! ### defs -/
def lentF (D : Nat → Option Def) (f : Nat) : Bool := match D f with
  | some d => d.lent
  | none => false
/-- the arguments; lp: the list that is lent -/
inductive Args (Z : Nm) (ρ : List Addr) (H : Hp) : Bool → List PV → List V → Option Addr → Prop
  | plain {as : List PV} {vs : List V} : Rps Z ρ H as vs → Args Z ρ H false as vs none
  | lent {a : PV} {as : List PV} {p : Addr} {vs : List V} : Ow Z ρ H a p → Rps Z ρ H as vs → Args Z ρ H true (a :: as) (.ref p :: vs) (some p)
structure CNxt (Z : Nm) (lp : Option Addr) (ρ : List Addr) (H : Hp) (ρ' : List Addr) (obs' : List Ob) (out : PV) (H' : Hp) : Prop where
  obs : Obs Z ρ' obs' H'
  pre : ρ <+: ρ'
  new : ∀ a, a ∈ ρ' → a ∈ ρ ∨ H a = none
  fr : ∀ b o, H b = some o → lp ≠ some b → b ∉ ρ → (∀ ps, o ≠ .tbl ps) → H' b = some o
  tb : ∀ b ps, H b = some (.tbl ps) → ∃ ps', H' b = some (.tbl ps')
  lent : ∀ p, lp = some p → Ow Z ρ' H' out p
def CRes (Z : Nm) (ρ' : List Addr) (H H' : Hp) (v : PV) (o : Bool) (x : V) : Prop := match o with
  | true => ∃ a, x = .ref a ∧ Ow Z ρ' H' v a ∧ a ∉ ρ' ∧ H a = none
  | false => Rp Z ρ' H' v x
def CPst (Z : Nm) (lp : Option Addr) (ρ : List Addr) (H : Hp) (r : CR) (Q : VK) (E : XK) : Prop := match r with
  | .ok v o out obs' => ∀ ρ' H' x, CNxt Z lp ρ H ρ' obs' out H' → CRes Z ρ' H H' v o x → Q x H'
  | .exc c obs' => ∀ ρ' H' out, CNxt Z lp ρ H ρ' obs' out H' → E (.ref (Z.ca c)) none H'
  | .bad => False
def spF (Z : Nm) (lt : Bool) (C : List PV → List Ob → CR) (np : Nat) : Sp := fun vs H Q E => vs.length = np ∧ ∃ ρ as obs lp, Obs Z ρ obs H ∧ Args Z ρ H lt as vs lp ∧ CPst Z lp ρ H (C as obs) Q E
theorem lst_ins {H : Hp} {a : Addr} {vs : List V} {C dx : Addr} {fs : List (Str × V)} (h : H a = some (.lst vs)) (h2 : H a = some (.ins C dx fs)) : False := by
  rw [h] at h2
  cases h2
/-- behind a call that was lent nothing -/
theorem CNxt.nxt {ρ ρ' : List Addr} {s : Sta} {σ : Sg} {H H' : Hp} {obs' : List Ob} {out : PV} (m : Sim Z ρ s σ H) (n : CNxt Z none ρ H ρ' obs' out H') : Nxt Z ρ s σ H ρ' { s with obs := obs' } H' := by
  have fr : ∀ b o, H b = some o → b ∉ ρ → (∀ ps, o ≠ .tbl ps) → H' b = some o := fun b o h hb => n.fr b o h (fun z => nomatch z) hb
  have kp : Kp ρ H ρ' H' := ⟨fun a vs h => fr a _ h (m.keep h (fun _ z => nomatch z) (fun _ _ _ z => nomatch z)).2 (fun _ z => nomatch z), fun a o u h => fr a _ h (m.keep h (fun _ z => nomatch z) (fun _ _ _ z => nomatch z)).2 (fun _ z => nomatch z), n.pre⟩
  have ow : ∀ b vs, H b = some (.lst vs) → H' b = some (.lst vs) := fun b vs h => fr b _ h (fun q => by
    obtain ⟨C, dx, fs, e⟩ := m.obs.at' q
    exact lst_ins h e) (fun _ z => nomatch z)
  refine ⟨⟨m.len, fun i v q => ?_, fun i v q => ?_, m.dis, n.obs⟩, n.pre, n.new, fun b o h _ hb => fr b o h hb, fun i v q => ⟨v, q⟩, fun b q => ?_, n.tb⟩
  · obtain ⟨x, e1, e2⟩ := m.fr i v q
    exact ⟨x, e1, e2.mono kp⟩
  · obtain ⟨b, e1, e2⟩ := m.own i v q
    obtain ⟨vs, e⟩ := e2.get
    exact ⟨b, e1, e2.mono kp (by rw [ow _ _ e, e])⟩
  · obtain ⟨vs, e⟩ := m.ownAt q
    rw [ow _ _ e]
    exact fun z => nomatch z
theorem CRes.rv {ρ ρ' : List Addr} {s : Sta} {σ : Sg} {H H' : Hp} {v : PV} {o : Bool} {x : V} (m : Sim Z ρ s σ H) {s' : Sta} (hs : ∀ a, ownA s' σ a → ownA s σ a) (h : CRes Z ρ' H H' v o x) : (rRV Z σ).p H ρ' s' H' (rv v o) x := by
  cases o with
  | false => exact h
  | true =>
    obtain ⟨a, h1, h2, h3, h4⟩ := h
    refine ⟨a, h1, h2, fun q => ?_, h3, h4⟩
    obtain ⟨vs, e⟩ := m.ownAt (hs a q)
    rw [h4] at e
    cases e
/-- a call that is lent nothing -/
theorem rdcall {f np : Nat} {as' : List PV} {vs : List V} {ρ : List Addr} {s : Sta} {σ : Sg} {H : Hp} {Q : VK} (hnp : ∀ as obs, F f as obs ≠ .bad → as.length = np) (m : Sim Z ρ s σ H) (k : Rps Z ρ H as' vs)
    (q : Pst Z W (rRV Z σ) ρ s σ H ((F f as' s.obs).toM s) Q) : spF Z false (F f) np vs H Q (WE W σ) := by
  have hl : F f as' s.obs ≠ .bad → vs.length = np := fun z => by rw [← k.length]; exact hnp _ _ z
  cases e : F f as' s.obs with
  | bad => rw [e] at q; exact False.elim q
  | ok v o out obs' =>
    refine ⟨hl (by rw [e]; exact fun z => nomatch z), ρ, as', s.obs, none, m.obs, .plain k, ?_⟩
    rw [e] at q ⊢
    intro ρ' H' x n r
    have n1 := CNxt.nxt m n
    exact q ρ' H' x n1 (CRes.rv m (fun a h => n1.own h) r)
  | exc c obs' =>
    refine ⟨hl (by rw [e]; exact fun z => nomatch z), ρ, as', s.obs, none, m.obs, .plain k, ?_⟩
    rw [e] at q ⊢
    intro ρ' H' out n
    exact q ρ' H' (CNxt.nxt m n)
theorem s_call {f : Nat} {A : Addr} {as : E} {x : Str} {e : Expr} {es : List Expr} {p pos : Pos} {k np : Nat} {fd : FuncData} {ps : List Str} (FO : FnOk X.prog X.w X.K X.mg X.base (L2N.CX X.prog X.w) k A fd ps (spF Z false (F f) np)) (hnp : ∀ as obs, F f as obs ≠ .bad → as.length = np)
    (hr : Room k X.A) (hg : Gl X x) (hm : X.mg x = some (.ref A)) (hk : PySem.W.keepIn X.K (.ref A) = true) (hb : Binds X.K fd ps []) (tk : L2N.Takes X W) (ha : PA X (e :: es) (rdA Z W F as)) (hdb : (x == ("__debug__" : Str)) = false) (hp : (e :: es).all plainE = true) :
    PE X (.Call (.Name x p) (e :: es) [] pos) (rdE Z W F (.call f as)) := by
  rw [List.all_cons, Bool.and_eq_true] at hp
  refine (pe_callS (E := WE W) FO hr hg hm hk hb (fun σ => L2N.passAt tk σ) ha hdb (star_cons hp.1) (star_any hp.2)).impQ fun σ H Q h => ?_
  obtain ⟨ρ, s, m, h⟩ := h
  have h : Pst Z W (rRV Z σ) ρ s σ H ((dA F as s).bind fun vs s => (F f vs s.obs).toM s) Q := h
  refine ⟨ρ, s, m, Pst.bind (rel2 := rRV Z σ) m h fun ρ1 s1 H1 as' vs e n k q => ?_⟩
  exact rdcall hnp n.sim k (q.later m n)
/-- behind a call that was lent the list at i -/
theorem CNxt.nxtb {ρ ρ' : List Addr} {s : Sta} {σ : Sg} {H H' : Hp} {obs' : List Ob} {out v : PV} {i : Nat} {p : Addr} (m : Sim Z ρ s σ H) (ei : s.env[i]? = some (.own v)) (ep : σ[i]? = some (some (.ref p))) (n : CNxt Z (some p) ρ H ρ' obs' out H') :
    Nxt Z ρ s σ H ρ' { env := s.env.set i (.own out), obs := obs' } H' := by
  have op : ownA s σ p := ⟨i, v, ei, ep⟩
  obtain ⟨ws, hp⟩ := m.ownAt op
  have fr : ∀ b o, H b = some o → b ≠ p → b ∉ ρ → (∀ ps, o ≠ .tbl ps) → H' b = some o := fun b o h hb => n.fr b o h (fun z => hb (Option.some.inj z).symm)
  have kp : Kp ρ H ρ' H' := ⟨fun a vs h => fr a _ h (ne_of h hp (fun z => nomatch z)) (m.keep h (fun _ z => nomatch z) (fun _ _ _ z => nomatch z)).2 (fun _ z => nomatch z), fun a o u h => fr a _ h (ne_of h hp (fun z => nomatch z)) (m.keep h (fun _ z => nomatch z) (fun _ _ _ z => nomatch z)).2 (fun _ z => nomatch z), n.pre⟩
  have lt : i < s.env.length := (List.getElem?_eq_some_iff.mp ei).1
  have ee : (s.env.set i (Slot.own out))[i]? = some (.own out) := List.getElem?_set_self lt
  have en : ∀ j, j ≠ i → (s.env.set i (Slot.own out))[j]? = s.env[j]? := fun j hj => List.getElem?_set_ne (Ne.symm hj)
  have owl := n.lent p rfl
  refine ⟨⟨?_, fun j w q => ?_, fun j w q => ?_, fun j k w u b q1 q2 q3 q4 => ?_, n.obs⟩, n.pre, n.new, fun b o h h1 hb => fr b o h (fun z => h1 (by rw [z]; exact op)) hb, fun j w q => ?_, fun b q => ?_, n.tb⟩
  · show (s.env.set i _).length = _
    rw [List.length_set]
    exact m.len
  · have q : (s.env.set i (Slot.own out))[j]? = some (.fr w) := q
    by_cases hj : j = i
    · subst hj; rw [ee] at q; cases q
    · rw [en j hj] at q
      obtain ⟨x, e1, e2⟩ := m.fr j w q
      exact ⟨x, e1, e2.mono kp⟩
  · have q : (s.env.set i (Slot.own out))[j]? = some (.own w) := q
    by_cases hj : j = i
    · subst hj
      rw [ee] at q
      cases q
      exact ⟨p, ep, owl⟩
    · rw [en j hj] at q
      obtain ⟨b, e1, e2⟩ := m.own j w q
      obtain ⟨vs, e⟩ := e2.get
      have hb : b ≠ p := fun z => hj (m.dis j i w v b q ei e1 (by rw [z]; exact ep))
      have hr : b ∉ ρ := fun z => by
        obtain ⟨C, dx, fs, q⟩ := m.obs.at' z
        exact lst_ins e q
      exact ⟨b, e1, e2.mono kp (by rw [fr b _ e hb hr (fun _ z => nomatch z), e])⟩
  · have get : ∀ (j : Nat) (w : PV), (s.env.set i (Slot.own out))[j]? = some (.own w) → ∃ w' : PV, s.env[j]? = some (.own w') := fun j w q => by
      by_cases hj : j = i
      · subst hj; exact ⟨v, ei⟩
      · rw [en j hj] at q; exact ⟨w, q⟩
    obtain ⟨w1, z1⟩ := get j w q1
    obtain ⟨w2, z2⟩ := get k u q2
    exact m.dis j k w1 w2 b z1 z2 q3 q4
  · have q : (s.env.set i (Slot.own out))[j]? = some (.own w) := q
    by_cases hj : j = i
    · subst hj; exact ⟨v, ei⟩
    · rw [en j hj] at q; exact ⟨w, q⟩
  · obtain ⟨vs, e⟩ := m.ownAt q
    by_cases hb : b = p
    · subst hb
      obtain ⟨us, e2⟩ := owl.get
      rw [e2]
      exact fun z => nomatch z
    · have hr : b ∉ ρ := fun z => by
        obtain ⟨C, dx, fs, q⟩ := m.obs.at' z
        exact lst_ins e q
      rw [fr b _ e hb hr (fun _ z => nomatch z)]
      exact fun z => nomatch z
theorem s_callb {f i : Nat} {A : Addr} {as : E} {x y : Str} {es : List Expr} {p p2 pos : Pos} {k np : Nat} {fd : FuncData} {ps : List Str} (FO : FnOk X.prog X.w X.K X.mg X.base (L2N.CX X.prog X.w) k A fd ps (spF Z true (F f) np)) (hnp : ∀ as obs, F f as obs ≠ .bad → as.length = np)
    (hr : Room k X.A) (hg : Gl X x) (hm : X.mg x = some (.ref A)) (hk : PySem.W.keepIn X.K (.ref A) = true) (hb : Binds X.K fd ps []) (hN : X.N[i]? = some y) (hv : Vis X.env.scope y) (hd : (y == ("__debug__" : Str)) = false) (hcd : (y == ("__classdict__" : Str)) = false)
    (tk : L2N.Takes X W) (ha : PA X es (rdA Z W F as)) (hdb : (x == ("__debug__" : Str)) = false) (hp : es.all plainE = true) :
    PE X (.Call (.Name x p) (.Name y p2 :: es) [] pos) (rdE Z W F (.callb f i as)) := by
  refine (pe_callS (E := WE W) FO hr hg hm hk hb (fun σ => L2N.passAt tk σ) (pa_cons (pe_var (pos := p2) hN hv hd hcd) ha) hdb rfl (star_any hp)).impQ fun σ H Q h => ?_
  obtain ⟨ρ, s, m, h⟩ := h
  have h : Pst Z W (rRV Z σ) ρ s σ H ((ownAt i s).bind fun _ s => (dA F as s).bind fun vs s => (ownAt i s).bind fun c s => (F f (c :: vs) s.obs).toMb i s) Q := h
  have own : ∀ s, (∃ v, slotAt i s = .own v ∧ ownAt i s = .ok v s) ∨ ownAt i s = .bad := fun s => by
    unfold ownAt
    cases q : slotAt i s with
    | own v => exact .inl ⟨v, rfl, rfl⟩
    | no => exact .inr rfl
    | fr v => exact .inr rfl
  rcases own s with ⟨v0, e0, e1⟩ | e1
  · rw [e1] at h
    have h : Pst Z W (rRV Z σ) ρ s σ H ((dA F as s).bind fun vs s => (ownAt i s).bind fun c s => (F f (c :: vs) s.obs).toMb i s) Q := h
    obtain ⟨p, ep, _⟩ := m.own i v0 (slot_get e0 (fun z => nomatch z))
    refine ⟨_, ep, ρ, s, m, Pst.bind (rel2 := rRV Z σ) m h fun ρ1 s1 H1 as' vs e n k q => ?_⟩
    have q := q.later m n
    rcases own s1 with ⟨v1, e2, e3⟩ | e3
    · rw [e3] at q
      have q : Pst Z W (rRV Z σ) ρ1 s1 σ H1 ((F f (v1 :: as') s1.obs).toMb i s1) Q := q
      have ei := slot_get e2 (fun z => nomatch z)
      obtain ⟨p', ep', ow⟩ := n.sim.own i v1 ei
      rw [ep] at ep'
      cases ep'
      have k : Rps Z ρ1 H1 as' vs := k
      have hl : F f (v1 :: as') s1.obs ≠ .bad → (V.ref p :: vs).length = np := fun z => by
        have := hnp _ _ z
        rw [List.length_cons] at this ⊢
        rw [← k.length]
        exact this
      cases e : F f (v1 :: as') s1.obs with
      | bad => rw [e] at q; exact False.elim q
      | exc c obs' => rw [e] at q; exact False.elim q
      | ok v o out obs' =>
        refine ⟨hl (by rw [e]; exact fun z => nomatch z), ρ1, _, s1.obs, some p, n.sim.obs, .lent ow k, ?_⟩
        rw [e] at q ⊢
        intro ρ' H' x n2 r
        have n1 := CNxt.nxtb n.sim ei ep n2
        exact q ρ' H' x n1 (CRes.rv n.sim (fun a h => n1.own h) r)
    · rw [e3] at q
      exact False.elim q
  · rw [e1] at h
    exact False.elim h
end
end Qv
end
section
set_option Elab.async false
set_option linter.all false
set_option autoImplicit false
set_option maxRecDepth 100000
set_option maxHeartbeats 1000000
/-! Q9: what is walked; comprehensions. -/
namespace Qv
open PySem PySem.Spec PyProof.Rows L2

/-- J walks vs, where st holds -/
structure Src (Z : Nm) (J : It) (vs : List PV) (st : List Addr → Hp → Prop) : Prop where
  keep : ∀ {ρ H ρ' H'}, Kp ρ H ρ' H' → st ρ H → st ρ' H'
  go : ∀ {ρ H} (i : Nat), st ρ H → i < vs.length → J.go i H
  stop : ∀ {ρ H} (i : Nat), st ρ H → vs.length ≤ i → J.stop i H
  yld : ∀ {ρ H} (i : Nat) (x : V) (H' : Hp) (v : PV), st ρ H → vs[i]? = some v → J.yld i H x H' → Same H H' ∧ Rp Z ρ H' v x
def rSrc (Z : Nm) : Rl (List PV) It := ⟨fun _ ρ _ H vs J => (∃ st, Src Z J vs st ∧ st ρ H) ∧ vs.length ≤ sizeLine, fun _ h => h⟩
/-- a list or tuple that stands in the heap is not too long -/
def Bd (H : Hp) (x : V) : Prop := (∀ a o ws, x = .ref a → H a = some (.frz o (.lst ws)) → ws.length ≤ sizeLine) ∧ ∀ a ws, x = .ref a → H a = some (.tup ws) → ws.length ≤ sizeLine
theorem _root_.L2.PE.bound {X : Cx} {e : Expr} {t : TE} (h : PE X e t) : PE X e (fun σ H Q => t σ H fun x H1 => Bd H1 x → Q x H1) := by
  refine ⟨fun pins s σ H Q I q => thn (h.run pins s σ H _ I q) fun u s1 ⟨x, H1, I1, r, q⟩ => ⟨x, H1, I1, r, q ⟨fun a o ws e h => ?_, fun a ws e h => ?_⟩⟩⟩
  · obtain ⟨_, z, _⟩ := I1.hok a _ h
    exact z
  · obtain ⟨z, _⟩ := I1.hok a _ h
    exact z
theorem Bd.lst {Z : Nm} {ρ : List Addr} {H : Hp} {xs : List PV} {a : Addr} (b : Bd H (.ref a)) (h : ∃ o ws, H a = some (.frz o (.lst ws)) ∧ Rps Z ρ H xs ws) : xs.length ≤ sizeLine := by
  obtain ⟨o, ws, h1, h2⟩ := h
  rw [h2.length]
  exact b.1 a o ws rfl h1
theorem Bd.tup {Z : Nm} {ρ : List Addr} {H : Hp} {xs : List PV} {a : Addr} (b : Bd H (.ref a)) (h : ∃ ws, H a = some (.tup ws) ∧ Rps Z ρ H xs ws) : xs.length ≤ sizeLine := by
  obtain ⟨ws, h1, h2⟩ := h
  rw [h2.length]
  exact b.2 a ws rfl h1
def rdI (Z : Nm) (W : WX) (F : FT) (c : E) : TI := rd Z W (fun _ => rSrc Z) (dI F c)
theorem _root_.L2.PI.impQ {X : Cx} {tg e : Expr} {t t' : TI} (h : PI X tg e t) (k : ∀ σ H Q, t' σ H Q → t σ H Q) : PI X tg e t' := ⟨fun pins s σ H Q I q => h.run pins s σ H Q I (k σ H Q q)⟩
section
variable {Z : Nm} {W : WX} {F : FT} {X : Cx}
def stL (Z : Nm) (a : Addr) (vs : List PV) (ρ : List Addr) (H : Hp) : Prop := ∃ o ws, H a = some (.frz o (.lst ws)) ∧ Rps Z ρ H vs ws
def stT (Z : Nm) (a : Addr) (vs : List PV) (ρ : List Addr) (H : Hp) : Prop := ∃ ws, H a = some (.tup ws) ∧ Rps Z ρ H vs ws
theorem stL.keep {a : Addr} {vs : List PV} {ρ ρ' : List Addr} {H H' : Hp} (k : Kp ρ H ρ' H') (h : stL Z a vs ρ H) : stL Z a vs ρ' H' := let ⟨o, ws, h1, h2⟩ := h; ⟨o, ws, k.frz _ _ _ h1, h2.mono k⟩
theorem stT.keep {a : Addr} {vs : List PV} {ρ ρ' : List Addr} {H H' : Hp} (k : Kp ρ H ρ' H') (h : stT Z a vs ρ H) : stT Z a vs ρ' H' := let ⟨ws, h1, h2⟩ := h; ⟨ws, k.tup _ _ h1, h2.mono k⟩
theorem src_lst {K : PySem.W.Frag} {a : Addr} {vs : List PV} : Src Z (Itl K a) vs (stL Z a vs) where
  keep := fun k h => h.keep k
  go := fun {ρ H} i h hi => by
    obtain ⟨o, ws, h1, h2⟩ := h
    obtain ⟨w, e, _⟩ := h2.get (List.getElem?_eq_getElem hi)
    exact ⟨ws, w, .inl (.inr ⟨o, h1⟩), e⟩
  stop := fun {ρ H} i h hi => by
    obtain ⟨o, ws, h1, h2⟩ := h
    exact ⟨ws, .inl (.inr ⟨o, h1⟩), by rw [← h2.length]; exact hi⟩
  yld := fun {ρ H} i x H' v h hv y => by
    obtain ⟨o, ws, h1, h2⟩ := h
    obtain ⟨e, y⟩ := y
    subst e
    obtain ⟨w, e, r⟩ := h2.get hv
    have := y ws (.inl (.inr ⟨o, h1⟩))
    rw [e] at this
    cases this
    exact ⟨.refl _, r⟩
theorem src_tup {K : PySem.W.Frag} {a : Addr} {vs : List PV} : Src Z (Itt K a) vs (stT Z a vs) where
  keep := fun k h => h.keep k
  go := fun {ρ H} i h hi => by
    obtain ⟨ws, h1, h2⟩ := h
    obtain ⟨w, e, _⟩ := h2.get (List.getElem?_eq_getElem hi)
    exact ⟨ws, w, .inl (.inl h1), e⟩
  stop := fun {ρ H} i h hi => by
    obtain ⟨ws, h1, h2⟩ := h
    exact ⟨ws, .inl (.inl h1), by rw [← h2.length]; exact hi⟩
  yld := fun {ρ H} i x H' v h hv y => by
    obtain ⟨ws, h1, h2⟩ := h
    obtain ⟨e, y⟩ := y
    subst e
    obtain ⟨w, e, r⟩ := h2.get hv
    have := y ws (.inl (.inl h1))
    rw [e] at this
    cases this
    exact ⟨.refl _, r⟩
theorem src_rng {lo hi : Int} : Src Z (Itr lo (hi - lo).toNat) (rngP lo hi) (fun _ _ => True) where
  keep := fun _ h => h
  go := fun i _ hi => by
    unfold rngP at hi
    rw [List.length_map, List.length_range] at hi
    exact hi
  stop := fun i _ hi => by
    unfold rngP at hi
    rw [List.length_map, List.length_range] at hi
    exact hi
  yld := fun {ρ H} i x H' v _ hv y => by
    obtain ⟨e, y⟩ := y
    subst e
    unfold rngP at hv
    rw [List.getElem?_map] at hv
    cases q : (List.range (hi - lo).toNat)[i]? with
    | none => rw [q] at hv; cases hv
    | some k =>
      rw [q] at hv
      cases hv
      have : k = i := by
        obtain ⟨h1, h2⟩ := List.getElem?_eq_some_iff.mp q
        rw [List.getElem_range] at h2
        exact h2.symm
      subst this
      rw [y]
      exact ⟨.refl _, .int _⟩
theorem zipP_get {xs ys : List PV} {i : Nat} {v : PV} (h : (zipP xs ys)[i]? = some v) : ∃ x y, xs[i]? = some x ∧ ys[i]? = some y ∧ v = .tup [x, y] := by
  unfold zipP at h
  rw [List.getElem?_map] at h
  cases q : (xs.zip ys)[i]? with
  | none => rw [q] at h; cases h
  | some p =>
    rw [q] at h
    cases h
    obtain ⟨a, b⟩ := p
    obtain ⟨h1, h2⟩ := List.getElem?_zip_eq_some.mp q
    exact ⟨a, b, h1, h2, rfl⟩
theorem zipP_len (xs ys : List PV) : (zipP xs ys).length = min xs.length ys.length := by
  unfold zipP
  rw [List.length_map, List.length_zip]
theorem pair_rp {ρ : List Addr} {H : Hp} {T : Addr} {x y : V} {a b : PV} (hT : H T = none) (h1 : Rp Z ρ H a x) (h2 : Rp Z ρ H b y) : Same H (upd H T (.tup [x, y])) ∧ Rp Z ρ (upd H T (.tup [x, y])) (.tup [a, b]) (.ref T) :=
  ⟨same_upd hT, .tup upd_same (.cons (h1.mono (kp_same (same_upd hT))) (.cons (h2.mono (kp_same (same_upd hT))) .nil))⟩
theorem src_zipL {K : PySem.W.Frag} {a b : Addr} {xs ys : List PV} : Src Z (Itz K a b) (zipP xs ys) (fun ρ H => stL Z a xs ρ H ∧ stL Z b ys ρ H) where
  keep := fun k h => ⟨h.1.keep k, h.2.keep k⟩
  go := fun {ρ H} i h hi => by
    obtain ⟨⟨o, ws, h1, h2⟩, ⟨o', ws', h3, h4⟩⟩ := h
    rw [zipP_len] at hi
    obtain ⟨w, e, _⟩ := h2.get (List.getElem?_eq_getElem (show i < xs.length by omega))
    obtain ⟨w', e', _⟩ := h4.get (List.getElem?_eq_getElem (show i < ys.length by omega))
    exact ⟨ws, ws', w, w', .inl (.inr ⟨o, h1⟩), .inl (.inr ⟨o', h3⟩), e, e'⟩
  stop := fun {ρ H} i h hi => by
    obtain ⟨⟨o, ws, h1, h2⟩, ⟨o', ws', h3, h4⟩⟩ := h
    rw [zipP_len] at hi
    exact ⟨ws, ws', .inl (.inr ⟨o, h1⟩), .inl (.inr ⟨o', h3⟩), by rw [← h2.length, ← h4.length]; omega⟩
  yld := fun {ρ H} i x H' v h hv y => by
    obtain ⟨⟨o, ws, h1, h2⟩, ⟨o', ws', h3, h4⟩⟩ := h
    obtain ⟨p, q, e1, e2, rfl⟩ := zipP_get hv
    obtain ⟨T, x1, y1, rfl, hT, rfl, y1', y2'⟩ := y
    obtain ⟨w, e, r⟩ := h2.get e1
    obtain ⟨w', e', r'⟩ := h4.get e2
    have z1 := y1' ws (.inl (.inr ⟨o, h1⟩))
    have z2 := y2' ws' (.inl (.inr ⟨o', h3⟩))
    rw [e] at z1
    rw [e'] at z2
    cases z1
    cases z2
    exact pair_rp hT r r'
theorem src_zipT {K : PySem.W.Frag} {a b : Addr} {xs ys : List PV} : Src Z (RZ.ItzT K a b) (zipP xs ys) (fun ρ H => stT Z a xs ρ H ∧ stT Z b ys ρ H) where
  keep := fun k h => ⟨h.1.keep k, h.2.keep k⟩
  go := fun {ρ H} i h hi => by
    obtain ⟨⟨ws, h1, h2⟩, ⟨ws', h3, h4⟩⟩ := h
    rw [zipP_len] at hi
    obtain ⟨w, e, _⟩ := h2.get (List.getElem?_eq_getElem (show i < xs.length by omega))
    obtain ⟨w', e', _⟩ := h4.get (List.getElem?_eq_getElem (show i < ys.length by omega))
    exact ⟨ws, ws', w, w', .inl (.inl h1), .inl (.inl h3), e, e'⟩
  stop := fun {ρ H} i h hi => by
    obtain ⟨⟨ws, h1, h2⟩, ⟨ws', h3, h4⟩⟩ := h
    rw [zipP_len] at hi
    exact ⟨ws, ws', .inl (.inl h1), .inl (.inl h3), by rw [← h2.length, ← h4.length]; omega⟩
  yld := fun {ρ H} i x H' v h hv y => by
    obtain ⟨⟨ws, h1, h2⟩, ⟨ws', h3, h4⟩⟩ := h
    obtain ⟨p, q, e1, e2, rfl⟩ := zipP_get hv
    obtain ⟨T, x1, y1, rfl, hT, rfl, y1', y2'⟩ := y
    obtain ⟨w, e, r⟩ := h2.get e1
    obtain ⟨w', e', r'⟩ := h4.get e2
    have z1 := y1' ws (.inl (.inl h1))
    have z2 := y2' ws' (.inl (.inl h3))
    rw [e] at z1
    rw [e'] at z2
    cases z1
    cases z2
    exact pair_rp hT r r'
theorem src_enum {K : PySem.W.Frag} {a : Addr} {xs : List PV} : Src Z (Ite K a) (enmP xs) (stL Z a xs) where
  keep := fun k h => h.keep k
  go := fun {ρ H} i h hi => by
    obtain ⟨o, ws, h1, h2⟩ := h
    unfold enmP at hi
    rw [List.length_map, List.length_zip, List.length_range, Nat.min_self] at hi
    obtain ⟨w, e, _⟩ := h2.get (List.getElem?_eq_getElem hi)
    exact ⟨ws, w, .inl (.inr ⟨o, h1⟩), e⟩
  stop := fun {ρ H} i h hi => by
    obtain ⟨o, ws, h1, h2⟩ := h
    unfold enmP at hi
    rw [List.length_map, List.length_zip, List.length_range, Nat.min_self] at hi
    exact ⟨ws, .inl (.inr ⟨o, h1⟩), by rw [← h2.length]; exact hi⟩
  yld := fun {ρ H} i x H' v h hv y => by
    obtain ⟨o, ws, h1, h2⟩ := h
    unfold enmP at hv
    rw [List.getElem?_map] at hv
    cases q : ((List.range xs.length).zip xs)[i]? with
    | none => rw [q] at hv; cases hv
    | some p =>
      rw [q] at hv
      cases hv
      obtain ⟨k, b⟩ := p
      obtain ⟨q1, q2⟩ := List.getElem?_zip_eq_some.mp q
      have : k = i := by
        obtain ⟨h1, h2⟩ := List.getElem?_eq_some_iff.mp q1
        rw [List.getElem_range] at h2
        exact h2.symm
      subst this
      obtain ⟨T, x1, rfl, hT, rfl, y1⟩ := y
      obtain ⟨w, e, r⟩ := h2.get q2
      have z1 := y1 ws (.inl (.inr ⟨o, h1⟩))
      rw [e] at z1
      cases z1
      exact pair_rp hT (.int _) r
theorem Rp.stL {ρ : List Addr} {H : Hp} {xs : List PV} {x : V} (h : Rp Z ρ H (.lst xs) x) : ∃ a, x = .ref a ∧ Qv.stL Z a xs ρ H := by
  cases h with
  | lst h r => exact ⟨_, rfl, _, _, h, r⟩
theorem Rp.stT {ρ : List Addr} {H : Hp} {xs : List PV} {x : V} (h : Rp Z ρ H (.tup xs) x) : ∃ a, x = .ref a ∧ Qv.stT Z a xs ρ H := by
  cases h with
  | tup h r => exact ⟨_, rfl, _, h, r⟩
/-! ### the walks of the text -/
def iSeq (K : PySem.W.Frag) (tl : TE) : TI := fun σ H R => tl σ H fun x H1 => ∃ a, x = .ref a ∧ (((∃ xs, SqL K H1 a xs) ∧ R (Itl K a) H1) ∨ ((∃ xs, SqT K H1 a xs) ∧ R (Itt K a) H1))
theorem pi_seq {tg l : Expr} {tl : TE} (hl : PE X l tl) : PI X tg l (iSeq X.K tl) := by
  refine ⟨fun pins s σ H R I h => ?_⟩
  refine thn (hl.run pins s σ H _ I h) fun v s1 ⟨x, H1, I1, r1, q1⟩ => ?_
  obtain ⟨a, e, q⟩ := q1
  subst e
  cases r1
  rcases q with ⟨⟨xs, hq⟩, q⟩ | ⟨⟨xs, hq⟩, q⟩
  · obtain ⟨its, rv, p, hz⟩ := I1.list hq
    refine wpAny_pyIter_list p.isList ?_
    refine ⟨s1.heap.objs.size, [s1.heap.objs.size], _, _, H1, rfl, I1.kept (t' := s1.toks) fun b o e => Heap.get?_push_of_some _ e, turn_list a _, ⟨_, Heap.get?_push_size _ rfl, rfl, rfl⟩, fun b hb => ?_, q⟩
    have e : b = s1.heap.objs.size := by simpa using hb
    subst e
    exact I1.fpOk (Nat.le_refl _) (I1.hok.fresh (Nat.le_refl _))
  · obtain ⟨its, rv, p, hz⟩ := I1.tuple hq
    refine wpAny_pyIter_tuple (show s1.heap.IsTuple a its.toArray from p) ?_
    refine ⟨s1.heap.objs.size, [s1.heap.objs.size], _, _, H1, rfl, I1.kept (t' := s1.toks) fun b o e => Heap.get?_push_of_some _ e, turn_tuple a _, ⟨_, Heap.get?_push_size _ rfl, rfl, rfl⟩, fun b hb => ?_, q⟩
    have e : b = s1.heap.objs.size := by simpa using hb
    subst e
    exact I1.fpOk (Nat.le_refl _) (I1.hok.fresh (Nat.le_refl _))
theorem i_seq {a : E} {tg e : Expr} (ha : PE X e (rdE Z W F a)) : PI X tg e (rdI Z W F (.seqI a)) := by
  refine (pi_seq (PE.frz ha).bound).impQ fun σ H R h => ?_
  obtain ⟨ρ, s, m, h⟩ := h
  have h : Pst Z W (rSrc Z) ρ s σ H ((dE F a s).bind fun x s => (frz x s).bind fun v => seqOf v) R := h
  have h : Pst Z W (rSrc Z) ρ s σ H (((dE F a >>= frz) s).bind fun v => seqOf v) R := Pst.unassoc h
  refine ⟨ρ, s, m, Pst.bind (rel2 := rSrc Z) m h fun ρ1 s1 H1 v x e n k q bd => ?_⟩
  have q := q.later m n
  have k : Rp Z ρ1 H1 v x := k
  cases v with
  | lst xs =>
    obtain ⟨a, rfl, st⟩ := k.stL
    obtain ⟨o, ws, h1, h2⟩ := id st
    exact ⟨a, rfl, .inl ⟨⟨ws, .inl (.inr ⟨o, h1⟩)⟩, q ρ1 H1 _ (.refl n.sim) ⟨⟨_, src_lst, st⟩, bd.lst st⟩⟩⟩
  | tup xs =>
    obtain ⟨a, rfl, st⟩ := k.stT
    obtain ⟨ws, h1, h2⟩ := id st
    exact ⟨a, rfl, .inr ⟨⟨ws, .inl (.inl h1)⟩, q ρ1 H1 _ (.refl n.sim) ⟨⟨_, src_tup, st⟩, bd.tup st⟩⟩⟩
  | _ => exact False.elim q
theorem small62_iff {i : Int} (h : small62 i = true) : -(2 ^ 62) ≤ i ∧ i < 2 ^ 62 := by
  cases i with
  | ofNat n =>
    simp only [small62, Nat.blt_eq] at h
    simp only [Int.ofNat_eq_natCast]
    have : (2 : Int) ^ 62 = 4611686018427387904 := by decide
    omega
  | negSucc n =>
    simp only [small62, Nat.blt_eq] at h
    have : (2 : Int) ^ 62 = 4611686018427387904 := by decide
    omega
theorem i_rng1 {a : E} {tg e : Expr} {p pos : Pos} (hg : Gl X "range") (hm : X.mg "range" = none) (ha : PE X e (rdE Z W F a)) (hp : plainE e = true) : PI X tg (.Call (.Name "range" p) [e] [] pos) (rdI Z W F (.rng1 a)) := by
  refine (pi_range1 hg hm (pa_cons ha pa_nil (star_cons hp)) (star_cons hp)).impQ fun σ H R h => ?_
  obtain ⟨ρ, s, m, h⟩ := h
  refine ⟨ρ, s, m, rd_I (rel := rSrc Z) (f := fun i => if small62 i && lenOk (rngP 0 i).length then pure (rngP 0 i) else M.bad) m h fun ρ1 s1 H1 i n q => ?_⟩
  have q := q.later m n
  split at q
  · rename_i hi
    rw [Bool.and_eq_true] at hi
    obtain ⟨h1, h2⟩ := small62_iff hi.1
    refine ⟨i, rfl, h1, h2, ?_⟩
    have := q ρ1 H1 (Itr 0 (i - 0).toNat) (.refl n.sim) ⟨⟨_, src_rng, trivial⟩, Nat.le_of_lt (lenOk_line hi.2)⟩
    rw [Int.sub_zero] at this
    exact this
  · exact False.elim q
theorem i_rng2 {a b : E} {tg e e2 : Expr} {p pos : Pos} (hg : Gl X "range") (hm : X.mg "range" = none) (ha : PE X e (rdE Z W F a)) (hb : PE X e2 (rdE Z W F b)) (hp : plainE e = true) (hp2 : plainE e2 = true) :
    PI X tg (.Call (.Name "range" p) [e, e2] [] pos) (rdI Z W F (.rng2 a b)) := by
  refine (pi_range2 hg hm (pa_cons ha (pa_cons hb pa_nil (star_cons hp2)) (star_cons hp)) (by rw [star_cons hp, star_cons hp2]; rfl) (star_cons hp2)).impQ fun σ H R h => ?_
  obtain ⟨ρ, s, m, h⟩ := h
  have h : Pst Z W (rSrc Z) ρ s σ H ((dE F a s).bind fun x s => (dE F b s).bind fun y s => (rvI x s).bind fun i s => (rvI y s).bind fun j => if (small62 i && small62 j) && lenOk (rngP i j).length then pure (rngP i j) else M.bad) R := h
  refine ⟨ρ, s, m, Pst.bind (rel2 := rSrc Z) m h fun ρ1 s1 H1 r x e n k q => ?_⟩
  refine ⟨ρ1, s1, n.sim, Pst.bind (rel2 := rSrc Z) n.sim (q.later m n) fun ρ2 s2 H2 r2 y e2 n2 k2 q2 => ?_⟩
  have q2 := q2.later n.sim n2
  have k := rRV_step n.sim n2 k
  have int : ∀ {r : RV} {x : V} {s : Sta} {H0 : Hp}, (rRV Z σ).p H0 ρ2 s H2 r x → (∃ i, r = .fr (.int i) ∧ x = .int i) ∨ rvI r s2 = .bad := fun {r x s H0} k => by
    cases r with
    | fr v =>
      cases v with
      | int i => cases (show Rp Z ρ2 H2 (.int i) x from k); exact .inl ⟨i, rfl, rfl⟩
      | _ => exact .inr rfl
    | _ => exact .inr rfl
  rcases int k with ⟨i, rfl, rfl⟩ | e
  · rcases int k2 with ⟨j, rfl, rfl⟩ | e
    · have q2 : Pst Z W (rSrc Z) ρ2 s2 σ H2 ((if (small62 i && small62 j) && lenOk (rngP i j).length then pure (rngP i j) else M.bad : M (List PV)) s2) R := q2
      split at q2
      · rename_i hi
        rw [Bool.and_eq_true, Bool.and_eq_true] at hi
        obtain ⟨h1, h2⟩ := small62_iff hi.1.1
        obtain ⟨h3, h4⟩ := small62_iff hi.1.2
        exact ⟨i, j, rfl, ⟨h1, h2, h3, h4⟩, q2 ρ2 H2 _ (.refl n2.sim) ⟨⟨_, src_rng, trivial⟩, Nat.le_of_lt (lenOk_line hi.2)⟩⟩
      · exact False.elim q2
    · have q2 : Pst Z W (rSrc Z) ρ2 s2 σ H2 ((rvI r2 s2).bind fun j => if (small62 i && small62 j) && lenOk (rngP i j).length then pure (rngP i j) else M.bad) R := q2
      rw [e] at q2
      exact False.elim q2
  · have q2 : Pst Z W (rSrc Z) ρ2 s2 σ H2 ((rvI r s2).bind fun i s => (rvI r2 s).bind fun j => if (small62 i && small62 j) && lenOk (rngP i j).length then pure (rngP i j) else M.bad) R := q2
    rw [e] at q2
    exact False.elim q2
theorem i_zip {a b : E} {e e2 : Expr} {p pos tpos : Pos} {elts : List Expr} {kk : Nat} (hg : Gl X "zip") (hm : X.mg "zip" = none) (ha : PE X e (rdE Z W F a)) (hb : PE X e2 (rdE Z W F b)) (hp : plainE e = true) (hp2 : plainE e2 = true) :
    PI X (.Tuple elts kk tpos) (.Call (.Name "zip" p) [e, e2] [] pos) (rdI Z W F (.zip a b)) := by
  refine (RZ.pi_zipA hg hm (pa_cons (PE.frz ha).bound (pa_cons (PE.frz hb) pa_nil (star_cons hp2)) (star_cons hp)) (star_cons hp) (star_any (by rw [List.all_cons, hp2]; rfl))).impQ fun σ H R h => ?_
  obtain ⟨ρ, s, m, h⟩ := h
  have h : Pst Z W (rSrc Z) ρ s σ H ((dE F a s).bind fun x s => (frz x s).bind fun v s => (dE F b s).bind fun y s => (frz y s).bind fun u => zipM v u) R := h
  have h : Pst Z W (rSrc Z) ρ s σ H (((dE F a >>= frz) s).bind fun v s => (dE F b s).bind fun y s => (frz y s).bind fun u => zipM v u) R := Pst.unassoc h
  refine ⟨ρ, s, m, Pst.bind (rel2 := rSrc Z) m h fun ρ1 s1 H1 v x e n k q bd => ?_⟩
  have q : Pst Z W (rSrc Z) ρ s σ H (((dE F b >>= frz) s1).bind fun u => zipM v u) R := Pst.unassoc q
  refine ⟨ρ1, s1, n.sim, Pst.bind (rel2 := rSrc Z) n.sim (q.later m n) fun ρ2 s2 H2 u y e2 n2 k2 q2 => ?_⟩
  have q2 := q2.later n.sim n2
  have k0 : Rp Z ρ1 H1 v x := k
  have k : Rp Z ρ2 H2 v x := Rp.mono (n2.kp n.sim) k
  have zl := zipP_len
  have k2 : Rp Z ρ2 H2 u y := k2
  cases v with
  | lst xs =>
    cases u with
    | lst ys =>
      obtain ⟨a, rfl, st⟩ := k.stL
      obtain ⟨b, rfl, st2⟩ := k2.stL
      obtain ⟨o, ws, h1, h2⟩ := id st
      obtain ⟨o', ws', h3, h4⟩ := id st2
      exact ⟨a, b, ws, ws', rfl, .inl ⟨.inl (.inr ⟨o, h1⟩), .inl (.inr ⟨o', h3⟩), q2 ρ2 H2 _ (.refl n2.sim) ⟨⟨_, src_zipL, st, st2⟩, by obtain ⟨_, e, st0⟩ := k0.stL; cases e; have := bd.lst st0; rw [zl]; omega⟩⟩⟩
    | _ => exact False.elim q2
  | tup xs =>
    cases u with
    | tup ys =>
      obtain ⟨a, rfl, st⟩ := k.stT
      obtain ⟨b, rfl, st2⟩ := k2.stT
      obtain ⟨ws, h1, h2⟩ := id st
      obtain ⟨ws', h3, h4⟩ := id st2
      exact ⟨a, b, ws, ws', rfl, .inr ⟨.inl (.inl h1), .inl (.inl h3), q2 ρ2 H2 _ (.refl n2.sim) ⟨⟨_, src_zipT, st, st2⟩, by obtain ⟨_, e, st0⟩ := k0.stT; cases e; have := bd.tup st0; rw [zl]; omega⟩⟩⟩
    | _ => exact False.elim q2
  | _ => exact False.elim q2
theorem i_enum {a : E} {e : Expr} {p pos tpos : Pos} {elts : List Expr} {kk : Nat} (hg : Gl X "enumerate") (hm : X.mg "enumerate" = none) (ha : PE X e (rdE Z W F a)) (hp : plainE e = true) :
    PI X (.Tuple elts kk tpos) (.Call (.Name "enumerate" p) [e] [] pos) (rdI Z W F (.enm a)) := by
  refine (pi_enum hg hm (pa_cons (PE.frz ha).bound pa_nil (star_cons hp)) (star_cons hp)).impQ fun σ H R h => ?_
  obtain ⟨ρ, s, m, h⟩ := h
  have h : Pst Z W (rSrc Z) ρ s σ H ((dE F a s).bind fun x s => (frz x s).bind fun v => enmM v) R := h
  have h : Pst Z W (rSrc Z) ρ s σ H (((dE F a >>= frz) s).bind fun v => enmM v) R := Pst.unassoc h
  refine ⟨ρ, s, m, Pst.bind (rel2 := rSrc Z) m h fun ρ1 s1 H1 v x e n k q bd => ?_⟩
  have q := q.later m n
  have k : Rp Z ρ1 H1 v x := k
  cases v with
  | lst xs =>
    obtain ⟨a, rfl, st⟩ := k.stL
    obtain ⟨o, ws, h1, h2⟩ := id st
    exact ⟨a, ws, rfl, .inl (.inr ⟨o, h1⟩), q ρ1 H1 _ (.refl n.sim) ⟨⟨_, src_enum, st⟩, by unfold enmP; rw [List.length_map, List.length_zip, List.length_range, Nat.min_self]; exact bd.lst st⟩⟩
  | _ => exact False.elim q
end

/-! ### targets -/
mutual
def Tg.slots : Tg → List Nat
  | .nm i => [i]
  | .tp ts => ts.slots
  | .nil => []
  | .cons t ts => t.slots ++ ts.slots
end
structure Tgx (Z : Nm) (ρ : List Addr) (H : Hp) (s : Sta) (σ : Sg) (s' : Sta) (σ' : Sg) (is : List Nat) : Prop where
  sim : Sim Z ρ s' σ' H
  out : ∀ j : Nat, j ∉ is → σ'[j]? = σ[j]?
  own : ∀ a, ownA s' σ' a → ownA s σ a
  le : ∀ (i : Nat) (v : PV), s'.env[i]? = some (.own v) → s.env[i]? = some (.own v)
  len : σ'.length = σ.length
def TPst (Z : Nm) (ρ : List Addr) (s : Sta) (σ : Sg) (H : Hp) (is : List Nat) (r : R Unit) (Q : Sg → Hp → Prop) : Prop := match r with
  | .ok _ s' => ∀ σ', Tgx Z ρ H s σ s' σ' is → Q σ' H
  | _ => False
def rdT (Z : Nm) (t : Tg) : TG := fun x σ H Q => ∃ ρ s v, Sim Z ρ s σ H ∧ Rp Z ρ H v x ∧ TPst Z ρ s σ H t.slots (setTg t v s) Q
def rdTs (Z : Nm) (t : Tg) : TGs := fun xs σ H Q => ∃ ρ s vs, Sim Z ρ s σ H ∧ Rps Z ρ H vs xs ∧ TPst Z ρ s σ H t.slots (setTgs t vs s) Q
theorem _root_.L2.PG.impQ {X : Cx} {e : Expr} {t t' : TG} (h : PG X e t) (k : ∀ x σ H Q, t' x σ H Q → t x σ H Q) : PG X e t' := ⟨fun pins s σ H v u Q I r q => h.run pins s σ H v u Q I r (k v σ H Q q)⟩
theorem _root_.L2.PGs.impQ {X : Cx} {e : List Expr} {t t' : TGs} (h : PGs X e t) (k : ∀ x σ H Q, t' x σ H Q → t x σ H Q) : PGs X e t' := ⟨fun pins s σ H v u Q I r q => h.run pins s σ H v u Q I r (k v σ H Q q)⟩
section
variable {Z : Nm} {ρ : List Addr} {s s1 s2 : Sta} {σ σ1 σ2 : Sg} {H : Hp} {is js : List Nat}
theorem Tgx.trans (a : Tgx Z ρ H s σ s1 σ1 is) (b : Tgx Z ρ H s1 σ1 s2 σ2 js) : Tgx Z ρ H s σ s2 σ2 (is ++ js) :=
  ⟨b.sim, fun j hj => by rw [List.mem_append, not_or] at hj; rw [b.out j hj.2, a.out j hj.1], fun c h => a.own c (b.own c h), fun i v h => a.le i v (b.le i v h), b.len.trans a.len⟩
theorem Tgx.setFr {i : Nat} {v : PV} {x : V} (m : Sim Z ρ s σ H) (r : Rp Z ρ H v x) : Tgx Z ρ H s σ (s.put i (.fr v)) (σ.set i (some x)) [i] := by
  have en : ∀ j, j ≠ i → (s.env.set i (Slot.fr v))[j]? = s.env[j]? := fun j hj => List.getElem?_set_ne (Ne.symm hj)
  have sn : ∀ j, j ≠ i → (σ.set i (some x))[j]? = σ[j]? := fun j hj => List.getElem?_set_ne (Ne.symm hj)
  have own : ∀ (j : Nat) (w : PV), (s.env.set i (Slot.fr v))[j]? = some (.own w) → j ≠ i ∧ s.env[j]? = some (.own w) := fun j w q => by
    by_cases hj : j = i
    · subst hj
      by_cases hl : j < s.env.length
      · rw [List.getElem?_set_self hl] at q; cases q
      · rw [List.getElem?_eq_none (by rw [List.length_set]; omega)] at q; cases q
    · rw [en j hj] at q; exact ⟨hj, q⟩
  refine ⟨⟨?_, fun j w q => ?_, fun j w q => ?_, fun j k w u a q1 q2 q3 q4 => ?_, m.obs⟩, fun j hj => sn j (by simpa using hj), fun a h => ?_, fun j w q => (own j w q).2, List.length_set⟩
  · show (s.env.set i _).length = (σ.set i _).length
    rw [List.length_set, List.length_set]
    exact m.len
  · have q : (s.env.set i (Slot.fr v))[j]? = some (.fr w) := q
    by_cases hj : j = i
    · subst hj
      by_cases hl : j < s.env.length
      · rw [List.getElem?_set_self hl] at q
        cases q
        exact ⟨x, List.getElem?_set_self (by rw [← m.len]; exact hl), r⟩
      · rw [List.getElem?_eq_none (by rw [List.length_set]; omega)] at q; cases q
    · rw [en j hj] at q
      rw [sn j hj]
      exact m.fr j w q
  · obtain ⟨hj, q⟩ := own j w q
    rw [sn j hj]
    exact m.own j w q
  · obtain ⟨hj, q1⟩ := own j w q1
    obtain ⟨hk, q2⟩ := own k u q2
    rw [sn j hj] at q3
    rw [sn k hk] at q4
    exact m.dis j k w u a q1 q2 q3 q4
  · obtain ⟨j, w, q1, q2⟩ := h
    obtain ⟨hj, q1⟩ := own j w q1
    rw [sn j hj] at q2
    exact ⟨j, w, q1, q2⟩
variable {X : Cx}
theorem g_nm {i : Nat} {x : Str} {pos : Pos} (hN : X.N.Nodup) (hi : X.N[i]? = some x) (hx : Loc X.env.scope x) (hf : X.fn x = true ∨ X.env.scope.names.lookup x = some .local) : PG X (.Name x pos) (rdT Z (.nm i)) := by
  refine (pg_name hN hi hx hf).impQ fun y σ H Q h => ?_
  obtain ⟨ρ, s, v, m, r, h⟩ := h
  exact h _ (Tgx.setFr m r)
theorem assignEach_len : ∀ (es : List Expr) (env : Env), (assignEach es env).length = es.length
  | [], _ => rfl
  | e :: es, env => by
    have ih := assignEach_len es env
    cases e <;> exact congrArg (· + 1) ih
theorem assignEach_cons {e : Expr} {es : List Expr} {env : Env} (h : plainE e = true) : assignEach (e :: es) env = (false, assign e env) :: assignEach es env := by
  cases e <;> first | rfl | cases h
theorem assignEach_any {es : List Expr} {env : Env} (h : es.all plainE = true) : (assignEach es env).findIdx? (·.1) = none := by
  induction es with
  | nil => rfl
  | cons e es ih =>
    rw [List.all_cons, Bool.and_eq_true] at h
    rw [assignEach_cons h.1, List.findIdx?_cons]
    simp only [Bool.false_eq_true, if_false]
    rw [ih h.2]
    rfl
theorem gs_nil : PGs X [] (rdTs Z .nil) := by
  refine pgs_nil.impQ fun y σ H Q h => ?_
  obtain ⟨ρ, s, v, m, r, h⟩ := h
  cases r with
  | nil => exact ⟨rfl, h σ ⟨m, fun _ _ => rfl, fun _ h => h, fun _ _ h => h, rfl⟩⟩
  | cons _ _ => exact False.elim h
theorem gs_cons {e : Expr} {es : List Expr} {t ts : Tg} (h1 : PG X e (rdT Z t)) (h2 : PGs X es (rdTs Z ts)) (hp : plainE e = true) : PGs X (e :: es) (rdTs Z (.cons t ts)) := by
  refine (pgs_cons h1 h2 (by rw [assignEach_cons hp]; rfl)).impQ fun y σ H Q h => ?_
  obtain ⟨ρ, s, v, m, r, h⟩ := h
  cases r with
  | nil => exact False.elim h
  | cons r rs =>
    rename_i v vs x xs
    have h : TPst Z ρ s σ H (t.slots ++ ts.slots) ((setTg t v s).bind fun _ => setTgs ts vs) Q := h
    refine ⟨x, xs, rfl, ρ, s, v, m, r, ?_⟩
    cases e1 : setTg t v s with
    | bad => rw [e1] at h; exact h
    | exc c s' => rw [e1] at h; exact h
    | ok u s1 =>
      rw [e1] at h
      have h : TPst Z ρ s σ H (t.slots ++ ts.slots) (setTgs ts vs s1) Q := h
      intro σ1 k
      refine ⟨ρ, s1, vs, k.sim, rs, ?_⟩
      cases e2 : setTgs ts vs s1 with
      | bad => rw [e2] at h; exact h
      | exc c s' => rw [e2] at h; exact h
      | ok u s2 =>
        rw [e2] at h
        exact fun σ2 k2 => h σ2 (k.trans k2)
theorem g_tp {es : List Expr} {k : Nat} {ts : Tg} {pos : Pos} (hc : X.calm = true) (h : PGs X es (rdTs Z ts)) (hp : es.all plainE = true) (hl : ∀ vs s, es.length ≠ vs.length → setTgs ts vs s = .bad) : PG X (.Tuple es k pos) (rdT Z (.tp ts)) := by
  refine (pg_tup hc h (assignEach_len es X.env) (assignEach_any hp)).impQ fun y σ H Q q => ?_
  obtain ⟨ρ, s, v, m, r, q⟩ := q
  cases v with
  | tup xs =>
    cases r with
    | tup hT rs =>
      have q : TPst Z ρ s σ H ts.slots (setTgs ts xs s) Q := q
      refine ⟨_, _, rfl, .inl (.inl hT), ?_, ρ, s, xs, m, rs, q⟩
      rw [← rs.length]
      by_cases e : es.length = xs.length
      · exact e.symm
      · rw [hl xs s e] at q
        exact False.elim q
  | _ => exact False.elim q
end
end Qv
end
section
set_option Elab.async false
set_option linter.all false
set_option autoImplicit false
set_option maxRecDepth 100000
set_option maxHeartbeats 1000000
/-! Q10: comprehensions. -/
namespace Qv
open PySem PySem.Spec PyProof.Rows L2

theorem envW_out {is : List Nat} {j : Nat} (h : j ∉ is) : ∀ (e : List Slot), (is.foldl (fun e i => e.set i Slot.no) e)[j]? = e[j]? := by
  induction is with
  | nil => intro e; rfl
  | cons i is ih =>
    intro e
    rw [List.mem_cons, not_or] at h
    rw [List.foldl_cons, ih h.2, List.getElem?_set_ne (Ne.symm h.1)]
theorem envW_in {is : List Nat} {j : Nat} {y : Slot} : ∀ (e : List Slot), (j ∈ is ∨ e[j]? = some .no ∨ e[j]? = none) → (is.foldl (fun e i => e.set i Slot.no) e)[j]? = some y → y = .no := by
  induction is with
  | nil =>
    intro e h q
    rcases h with h | h | h
    · cases h
    · rw [List.foldl_nil, h] at q; exact (Option.some.inj q).symm
    · rw [List.foldl_nil, h] at q; cases q
  | cons i is ih =>
    intro e h q
    rw [List.foldl_cons] at q
    refine ih (e.set i .no) ?_ q
    by_cases hj : j = i
    · subst hj
      by_cases hl : j < e.length
      · exact .inr (.inl (List.getElem?_set_self hl))
      · exact .inr (.inr (List.getElem?_eq_none (by rw [List.length_set]; omega)))
    · rw [List.getElem?_set_ne (Ne.symm hj)]
      rcases h with h | h
      · rcases List.mem_cons.mp h with z | z
        · exact absurd z hj
        · exact .inl z
      · exact .inr h
theorem wipe_in {σ : Sg} {j : Nat} : ∀ {is : List Nat}, j ∈ is → (L2.wipe σ is)[j]? = if j < σ.length then some none else none
  | i :: is, h => by
    show ((L2.wipe σ is).set i none)[j]? = _
    by_cases hj : i = j
    · subst hj
      by_cases hl : i < σ.length
      · rw [if_pos hl, List.getElem?_set_self (by rw [wipe_length]; exact hl)]
      · rw [if_neg hl, List.getElem?_eq_none (by rw [List.length_set, wipe_length]; omega)]
    · rw [List.getElem?_set_ne hj]
      rcases List.mem_cons.mp h with z | z
      · exact absurd z.symm hj
      · exact wipe_in z
theorem envW_len {is : List Nat} : ∀ (e : List Slot), (is.foldl (fun e i => e.set i Slot.no) e).length = e.length := by
  induction is with
  | nil => intro e; rfl
  | cons i is ih => intro e; rw [List.foldl_cons, ih, List.length_set]
section
variable {Z : Nm} {ρ ρ1 ρ2 : List Addr} {s s1 s2 : Sta} {σ σ1 σ2 : Sg} {H H1 H2 : Hp} {is : List Nat}
theorem wipe_env_some {y : Slot} {j : Nat} (h : (s.wipe is).env[j]? = some y) (hy : y ≠ .no) : j ∉ is ∧ s.env[j]? = some y := by
  have h : (is.foldl (fun e i => e.set i Slot.no) s.env)[j]? = some y := h
  by_cases hj : j ∈ is
  · exact absurd (envW_in s.env (.inl hj) h) hy
  · rw [envW_out hj] at h
    exact ⟨hj, h⟩
theorem ownA_wipe {a : Addr} : ownA (s.wipe is) (wipe σ is) a ↔ ∃ (i : Nat) (v : PV), i ∉ is ∧ s.env[i]? = some (.own v) ∧ σ[i]? = some (some (.ref a)) := by
  constructor
  · rintro ⟨i, v, h1, h2⟩
    obtain ⟨hi, h1⟩ := wipe_env_some h1 (fun z => nomatch z)
    rw [wipe_out hi] at h2
    exact ⟨i, v, hi, h1, h2⟩
  · rintro ⟨i, v, hi, h1, h2⟩
    refine ⟨i, v, ?_, by rw [wipe_out hi]; exact h2⟩
    show (is.foldl (fun e i => e.set i Slot.no) s.env)[i]? = _
    rw [envW_out hi]
    exact h1
theorem Sim.wipe (m : Sim Z ρ s σ H) (is : List Nat) : Sim Z ρ (s.wipe is) (L2.wipe σ is) H := by
  refine ⟨?_, fun i v q => ?_, fun i v q => ?_, fun i j v w a q1 q2 q3 q4 => ?_, m.obs⟩
  · show (is.foldl (fun e i => e.set i Slot.no) s.env).length = _
    rw [envW_len, wipe_length]
    exact m.len
  · obtain ⟨hi, q⟩ := wipe_env_some q (fun z => nomatch z)
    rw [wipe_out hi]
    exact m.fr i v q
  · obtain ⟨hi, q⟩ := wipe_env_some q (fun z => nomatch z)
    rw [wipe_out hi]
    exact m.own i v q
  · obtain ⟨hi, q1⟩ := wipe_env_some q1 (fun z => nomatch z)
    obtain ⟨hj, q2⟩ := wipe_env_some q2 (fun z => nomatch z)
    rw [wipe_out hi] at q3
    rw [wipe_out hj] at q4
    exact m.dis i j v w a q1 q2 q3 q4
theorem Sim.unwipe (m : Sim Z ρ (s.wipe is) (L2.wipe σ is) H) : Sim Z ρ (s.wipe is) σ H := by
  refine ⟨by rw [m.len, wipe_length], fun i v q => ?_, fun i v q => ?_, fun i j v w a q1 q2 q3 q4 => ?_, m.obs⟩
  · obtain ⟨hi, _⟩ := wipe_env_some q (fun z => nomatch z)
    rw [← wipe_out (σ := σ) hi]
    exact m.fr i v q
  · obtain ⟨hi, _⟩ := wipe_env_some q (fun z => nomatch z)
    rw [← wipe_out (σ := σ) hi]
    exact m.own i v q
  · obtain ⟨hi, _⟩ := wipe_env_some q1 (fun z => nomatch z)
    obtain ⟨hj, _⟩ := wipe_env_some q2 (fun z => nomatch z)
    rw [← wipe_out (σ := σ) hi] at q3
    rw [← wipe_out (σ := σ) hj] at q4
    exact m.dis i j v w a q1 q2 q3 q4
/-- behind the block: its names are forgotten -/
theorem Nxt.unwipe (m : Sim Z ρ s σ H) (n : Nxt Z ρ (s.wipe is) (L2.wipe σ is) H ρ1 (s1.wipe is) H1) : Nxt Z ρ s σ H ρ1 (s1.wipe is) H1 := by
  have sub : ∀ b, ownA (s.wipe is) (L2.wipe σ is) b → ownA s σ b := fun b h => let ⟨i, v, _, h1, h2⟩ := ownA_wipe.mp h; ⟨i, v, h1, h2⟩
  refine ⟨n.sim.unwipe, n.pre, n.new, fun b o h h1 h2 => n.fr b o h (fun q => h1 (sub b q)) h2, fun i v q => ?_, fun b q => ?_, n.tb⟩
  · obtain ⟨w, e⟩ := n.le i v q
    exact ⟨w, (wipe_env_some e (fun z => nomatch z)).2⟩
  · by_cases hb : ownA (s.wipe is) (L2.wipe σ is) b
    · exact n.th b hb
    · obtain ⟨vs, e⟩ := m.ownAt q
      have hr : b ∉ ρ := fun z => by
        obtain ⟨C, dx, fs, q⟩ := m.obs.at' z
        exact lst_ins e q
      rw [n.fr b _ e hb hr (fun _ z => nomatch z)]
      exact fun z => nomatch z
/-- one turn of the block, told of the forgotten names -/
theorem Nxt.turn {js : List Nat} {sa : Sta} (m : Sim Z ρ (s.wipe is) (L2.wipe σ is) H) (t : Tgx Z ρ H1 (s.wipe is) (L2.wipe σ is) sa σ2 js) (hw : L2.wipe σ2 is = L2.wipe σ is) (n : Nxt Z ρ sa σ2 H ρ1 s1 H2) : Nxt Z ρ (s.wipe is) (L2.wipe σ is) H ρ1 (s1.wipe is) H2 := by
  refine ⟨by rw [← hw]; exact n.sim.wipe is, n.pre, n.new, fun b o h h1 h2 => n.fr b o h (fun q => h1 (t.own b q)) h2, fun i v q => ?_, fun b q => ?_, n.tb⟩
  · obtain ⟨_, e⟩ := wipe_env_some q (fun z => nomatch z)
    obtain ⟨w, e⟩ := n.le i v e
    exact ⟨w, t.le i w e⟩
  · by_cases hb : ownA sa σ2 b
    · exact n.th b hb
    · obtain ⟨vs, e⟩ := m.ownAt q
      have hr : b ∉ ρ := fun z => by
        obtain ⟨C, dx, fs, q⟩ := m.obs.at' z
        exact lst_ins e q
      rw [n.fr b _ e hb hr (fun _ z => nomatch z)]
      exact fun z => nomatch z
/-- a list of nobody's that is being made -/
theorem Sim.updD {D : Addr} {a b : List V} (m : Sim Z ρ s σ H) (h : H D = some (.lst a)) (no : ¬ ownA s σ D) : Kp ρ H ρ (upd H D (.lst b)) ∧ Sim Z ρ s σ (upd H D (.lst b)) := by
  have kp : Kp ρ H ρ (upd H D (.lst b)) := by
    refine ⟨fun c ws q => ?_, fun c o' u q => ?_, List.prefix_refl _⟩
    · rw [upd_ne (ne_of q h (fun z => nomatch z))]; exact q
    · rw [upd_ne (ne_of q h (fun z => nomatch z))]; exact q
  refine ⟨kp, m.len, fun j v q => ?_, fun j v q => ?_, m.dis, m.obs.len, m.obs.nd, fun n ob c q1 q2 => ?_, tab_upd h m.obs.tab⟩
  · obtain ⟨x, e1, e2⟩ := m.fr j v q
    exact ⟨x, e1, e2.mono kp⟩
  · obtain ⟨c, e1, e2⟩ := m.own j v q
    exact ⟨c, e1, e2.mono kp (upd_ne fun z => no ⟨j, v, q, by rw [← z]; exact e1⟩)⟩
  · obtain ⟨dx, fs, e1, e2, e3⟩ := m.obs.at_ n ob c q1 q2
    exact ⟨dx, fs, by rw [upd_ne (ne_of e1 h (fun z => nomatch z))]; exact e1, e2.mono kp, e3⟩
end
section
variable {Z : Nm} {W : WX} {F : FT} {X : Cx}
/-- a clause's tests -/
theorem c_nil : PTs X [] (rd Z (fun _ _ _ _ => False) (fun _ => rEq Bool) (condB .nil (dE F .nil))) := by
  refine ⟨fun pins s σ H Q I h => pts_nil.run pins s σ H Q I ?_⟩
  obtain ⟨ρ, s, m, h⟩ := h
  exact h ρ H true (.refl m) rfl
theorem c_one {c : E} {e : Expr} (hn : c ≠ .nil) (h : PT X e (rdB Z (fun _ _ _ _ => False) F c)) : PTs X [e] (rd Z (fun _ _ _ _ => False) (fun _ => rEq Bool) (condB c (dE F c))) := by
  refine ⟨fun pins s σ H Q I q => (pts_one h).run pins s σ H Q I ?_⟩
  have e1 : condB c (dE F c) = dE F c >>= rvB := by
    cases c <;> first | rfl | exact absurd rfl hn
  rw [e1] at q
  exact q
theorem s_comp {elt it cond : E} {tg : Tg} {own : List (Str × Nat)} (hsub : ∀ j, j ∈ tg.slots → j ∈ own.map (·.2)) : ∀ σ H Q, rdE Z W F (.comp elt tg it cond (own.map (·.2))) σ H Q → tLc (rdI Z W F it) (rdT Z tg) (rd Z (fun _ _ _ _ => False) (fun _ => rEq Bool) (condB cond (dE F cond))) (rdF Z (fun _ _ _ _ => False) F elt) (own.map (·.2)) σ H Q := by
  intro σ H Q h
  generalize own.map (·.2) = is at h hsub ⊢
  obtain ⟨ρ, s, m, h⟩ := h
  have h : Pst Z W (rRV Z σ) ρ s σ H ((dI F it s).bind fun vs s => (noX (compGo is (setTg tg) (condB cond (dE F cond)) (dE F elt >>= frz) vs []) s).bind fun ys => pure (RV.own (.lst ys))) Q := h
  refine ⟨ρ, s, m, Pst.bind (rel2 := rRV Z σ) m h fun ρ1 s1 H1 vs J e n k q D hD => ?_⟩
  obtain ⟨⟨st, src, hst⟩, hlen⟩ := k
  have q := q.later m n
  generalize hgo : compGo is (setTg tg) (condB cond (dE F cond)) (dE F elt >>= frz) = go at q
  unfold noX at q
  cases er : go vs [] s1 with
  | bad => rw [er] at q; exact False.elim q
  | exc c s' => rw [er] at q; exact False.elim q
  | ok ys s2 =>
    rw [er] at q
    have q : Pst Z W (rRV Z σ) ρ1 s1 σ H1 (.ok (.own (.lst ys)) s2) Q := q
    have m1 := n.sim
    have sm : Same H1 (upd H1 D (.lst [])) := same_upd hD
    have nD : ∀ {s' : Sta} {σ' : Sg} {ρ' : List Addr} {H' : Hp}, Nxt Z ρ1 (s1.wipe is) (L2.wipe σ is) H1 ρ' s' H' → σ' = L2.wipe σ is → ¬ ownA s' σ' D := fun {s' σ' ρ' H'} n e q => by
      subst e
      obtain ⟨vs, e⟩ := (m1.wipe is).ownAt (n.own q)
      rw [hD] at e
      cases e
    refine ⟨fun i mm H => mm = vs.length - i ∧ i ≤ vs.length ∧ ∃ ρ' s' acc accV, Nxt Z ρ1 (s1.wipe is) (L2.wipe σ is) H1 ρ' (s'.wipe is) H ∧ st ρ' H ∧ H D = some (.lst accV) ∧ Rps Z ρ' H acc accV ∧ D ∉ ρ' ∧ acc.length ≤ i ∧ go (vs.drop i) acc s' = .ok ys s2,
      ⟨vs.length, rfl, Nat.zero_le _, ρ1, s1, [], [], Nxt.same (m1.wipe is) sm, src.keep (kp_same sm) hst, upd_same, .nil, fun z => ?_, Nat.le_refl _, er⟩, ?_⟩
    · obtain ⟨C, dx, fs, e⟩ := m1.obs.at' z
      rw [hD] at e
      cases e
    · rintro i mm H2 ⟨rfl, hi, ρ', s', acc, accV, n2, hst2, hD2, hacc, hDρ, hal, hgo2⟩
      by_cases hlt : i < vs.length
      · -- a turn
        refine .inr ⟨src.go i hst2 hlt, ?_⟩
        obtain ⟨v, r, hvr⟩ : ∃ v r, vs.drop i = v :: r := ⟨_, _, List.drop_eq_getElem_cons hlt⟩
        have hv : vs[i]? = some v := by
          have := congrArg (fun l => l[0]?) hvr
          simpa using this
        have hr : vs.drop (i + 1) = r := by
          have := congrArg List.tail hvr
          simpa using this
        refine ⟨fun H' => ∃ ρ' s' acc accV, Nxt Z ρ1 (s1.wipe is) (L2.wipe σ is) H1 ρ' (s'.wipe is) H' ∧ st ρ' H' ∧ H' D = some (.lst accV) ∧ Rps Z ρ' H' acc accV ∧ D ∉ ρ' ∧ acc.length ≤ i + 1 ∧ go r acc s' = .ok ys s2, fun H' hN => ⟨vs.length - (i + 1), by omega, rfl, hlt, by rw [hr]; exact hN⟩, fun x H3 hy => ?_⟩
        obtain ⟨sm3, rv⟩ := src.yld i x H3 v hst2 hv hy
        have n3 := n2.trans (m1.wipe is) (Nxt.same n2.sim sm3)
        rw [hvr, ← hgo] at hgo2
        have hgo3 : ((setTg tg v (s'.wipe is)).bind fun _ s => ((condB cond (dE F cond) s).bind fun b => if b then (do let y ← (dE F elt >>= frz); compGo is (setTg tg) (condB cond (dE F cond)) (dE F elt >>= frz) r (acc ++ [y])) else compGo is (setTg tg) (condB cond (dE F cond)) (dE F elt >>= frz) r acc)) = .ok ys s2 := hgo2
        rw [hgo] at hgo3
        have hD3 : H3 D = some (.lst accV) := sm3 _ _ hD2
        have hacc3 : Rps Z ρ' H3 acc accV := hacc.mono (kp_same sm3)
        have hst3 := src.keep (kp_same (ρ := ρ') sm3) hst2
        refine ⟨ρ', s'.wipe is, v, n3.sim, rv, ?_⟩
        cases e1 : setTg tg v (s'.wipe is) with
        | bad => rw [e1] at hgo3; cases hgo3
        | exc c s'' => rw [e1] at hgo3; cases hgo3
        | ok u sa =>
          rw [e1] at hgo3
          have hgo3 : ((condB cond (dE F cond) sa).bind fun b => if b then (do let y ← (dE F elt >>= frz); go r (acc ++ [y])) else go r acc) = .ok ys s2 := hgo3
          intro σ2 t
          have hw : L2.wipe σ2 is = L2.wipe σ is := by
            apply List.ext_getElem?
            intro j
            by_cases hj : j ∈ is
            · rw [wipe_in hj, wipe_in hj, t.len, wipe_length]
            · rw [wipe_out hj, wipe_out hj, t.out j (fun z => hj (hsub j z)), wipe_out hj]
          refine ⟨hw, ρ', sa, t.sim, ?_⟩
          cases e2 : condB cond (dE F cond) sa with
          | bad => rw [e2] at hgo3; cases hgo3
          | exc c s'' => rw [e2] at hgo3; cases hgo3
          | ok b sb =>
            rw [e2] at hgo3
            intro ρ4 H4 b' n4 hb
            have hb : b = b' := hb
            subst hb
            have n4w := Nxt.turn n3.sim t hw n4
            have hDa : ¬ ownA sa σ2 D := fun z => nD n3 rfl (t.own _ z)
            have hD4 : H4 D = some (.lst accV) := n4.fr _ _ hD3 hDa hDρ (fun _ z => nomatch z)
            have hDρ4 : D ∉ ρ4 := fun z => by
              rcases n4.new _ z with z | z
              · exact hDρ z
              · rw [hD3] at z; cases z
            have kp4 := n4.kp t.sim
            cases b with
            | false =>
              rw [if_neg Bool.false_ne_true]
              exact ⟨ρ4, sb, acc, accV, n3.trans (m1.wipe is) n4w, src.keep kp4 hst3, hD4, hacc3.mono kp4, hDρ4, by omega, hgo3⟩
            | true =>
              rw [if_pos rfl]
              have hgo3 : (((dE F elt >>= frz) sb).bind fun y => go r (acc ++ [y])) = .ok ys s2 := hgo3
              refine ⟨ρ4, sb, n4.sim, ?_⟩
              cases e3 : (dE F elt >>= frz) sb with
              | bad => rw [e3] at hgo3; cases hgo3
              | exc c s'' => rw [e3] at hgo3; cases hgo3
              | ok y sc =>
                rw [e3] at hgo3
                intro ρ5 H5 yv n5 hy5
                have hy5 : Rp Z ρ5 H5 y yv := hy5
                have n45 := n4.trans t.sim n5
                have n5w := Nxt.turn n3.sim t hw n45
                have hD5 : H5 D = some (.lst accV) := n45.fr _ _ hD3 hDa hDρ (fun _ z => nomatch z)
                have hDρ5 : D ∉ ρ5 := fun z => by
                  rcases n45.new _ z with z | z
                  · exact hDρ z
                  · rw [hD3] at z; cases z
                have kp5 := n45.kp t.sim
                have nn := n3.trans (m1.wipe is) n5w
                obtain ⟨kpD, simD⟩ := Sim.updD (b := accV ++ [yv]) nn.sim hD5 (nD nn rfl)
                refine ⟨accV, hD5, ?_, ρ5, sc, acc ++ [y], accV ++ [yv], ⟨simD, nn.pre, nn.new, fun b o hb h1 h2 h3 => ?_, nn.le, fun b hb => ?_, fun b ps hb => ?_⟩, src.keep (kp5.trans kpD) hst3, upd_same, (((hacc3.mono kp5).append (.cons hy5 .nil)).mono kpD), hDρ5, by rw [List.length_append]; simpa using hal, hgo3⟩
                · rw [← hacc3.length]
                  omega
                · rw [upd_ne (ne_of_none hb hD)]
                  exact nn.fr b o hb h1 h2 h3
                · by_cases e : b = D
                  · rw [e, upd_same]; exact fun z => nomatch z
                  · rw [upd_ne e]; exact nn.th b hb
                · obtain ⟨ps', e⟩ := nn.tb b ps hb
                  exact tb_upd hD5 b ps' e
      · -- the end
        have e : i = vs.length := by omega
        subst e
        refine .inl ⟨src.stop _ hst2 (Nat.le_refl _), ?_⟩
        rw [List.drop_length, ← hgo] at hgo2
        have hgo2 : R.ok acc (s'.wipe is) = R.ok ys s2 := hgo2
        cases hgo2
        refine q ρ' H2 (.ref D) (Nxt.unwipe m1 n2) ⟨D, rfl, .lst hD2 hacc, fun z => ?_, hDρ, hD⟩
        obtain ⟨vs', e⟩ := m1.ownAt ((Nxt.unwipe m1 n2).own z)
        rw [hD] at e
        cases e
/-- as a value -/
theorem s_lc {elt it cond : E} {tg : Tg} {own : List (Str × Nat)} {te ie eltE : Expr} {ifs : List Expr} {scope : Scope} {pos : Pos} (hc : X.calm = true) (hN : X.N.Nodup) (hi : PI X te ie (rdI Z W F it)) (ok : BlkOk X.N X.env.scope scope own)
    (hsub : ∀ j, j ∈ tg.slots → j ∈ own.map (·.2))
    (hg : ∀ (s : Shared) (H : Hp) (C : Addr) (cl : List (Str × Addr)) (fp : List Addr), PG (X.blk s H scope (compEnvC scope cl C X.env) fp) te (rdT Z tg))
    (ht : ∀ (s : Shared) (H : Hp) (C : Addr) (cl : List (Str × Addr)) (fp : List Addr), PTs (X.blk s H scope (compEnvC scope cl C X.env) fp) ifs (rd Z (fun _ _ _ _ => False) (fun _ => rEq Bool) (condB cond (dE F cond))))
    (he : ∀ (s : Shared) (H : Hp) (C : Addr) (cl : List (Str × Addr)) (fp : List Addr), PE (X.blk s H scope (compEnvC scope cl C X.env) fp) eltE (rdE Z (fun _ _ _ _ => False) F elt))
    (hs : ∀ x, foldedSetIterable ie X.env x = pure x) : PE X (.ListComp eltE [⟨te, ie, ifs, 0⟩] scope pos) (rdE Z W F (.comp elt tg it cond (own.map (·.2)))) :=
  (pe_lc hc hN hi ok hg ht (fun s H C cl fp => PE.frz (he s H C cl fp)) hs).impQ fun σ H Q h => s_comp hsub σ H Q h
end
end Qv
end
section
set_option Elab.async false
set_option linter.all false
set_option autoImplicit false
set_option maxRecDepth 100000
set_option maxHeartbeats 1000000
/-! Q11: statements. -/
namespace Qv
open PySem PySem.Spec PyProof.Rows L2

/-- where a def began: the heap, what is lent to it, the objects -/
structure Bs where
  H0 : Hp
  lp : Option Addr
  ρ0 : List Addr
structure SimB (bs : Bs) (Z : Nm) (ρ : List Addr) (s : Sta) (σ : Sg) (H : Hp) : Prop where
  sim : Sim Z ρ s σ H
  fr : ∀ b o, bs.H0 b = some o → bs.lp ≠ some b → b ∉ bs.ρ0 → (∀ ps, o ≠ .tbl ps) → H b = some o
  own : ∀ a, ownA s σ a → bs.lp = some a ∨ bs.H0 a = none
  pre : bs.ρ0 <+: ρ
  new : ∀ a, a ∈ ρ → a ∈ bs.ρ0 ∨ bs.H0 a = none
  th : ∀ b, bs.lp = some b → H b ≠ none
  tb : ∀ b ps, bs.H0 b = some (.tbl ps) → ∃ ps', H b = some (.tbl ps')
  z0 : ∀ p, bs.lp = some p → σ[0]? = some (some (.ref p))
section
variable {bs : Bs} {Z : Nm} {W : WX} {ρ ρ1 ρ2 : List Addr} {s s1 s2 : Sta} {σ σ1 σ2 : Sg} {H H1 H2 : Hp}
theorem SimB.none (m : SimB bs Z ρ s σ H) (a : Addr) (h : H a = none) : bs.H0 a = none := by
  cases e : bs.H0 a with
  | none => rfl
  | some o =>
    by_cases h1 : bs.lp = some a
    · exact absurd h (m.th a h1)
    · by_cases h2 : a ∈ bs.ρ0
      · obtain ⟨C, dx, fs, q⟩ := m.sim.obs.at' (m.pre.subset h2)
        rw [h] at q
        cases q
      · by_cases h3 : ∃ ps, o = .tbl ps
        · obtain ⟨ps, rfl⟩ := h3
          obtain ⟨ps', e'⟩ := m.tb a ps e
          rw [h] at e'
          cases e'
        · rw [m.fr a o e h1 h2 fun ps z => h3 ⟨ps, z⟩] at h
          cases h
theorem SimB.nxt (m : SimB bs Z ρ s σ H) (n : Nxt Z ρ s σ H ρ1 s1 H1) : SimB bs Z ρ1 s1 σ H1 := by
  refine ⟨n.sim, fun b o h h1 h2 h3 => ?_, fun a h => m.own a (n.own h), m.pre.trans n.pre, fun a h => ?_, fun b h q => ?_, fun b ps h => ?_, m.z0⟩
  · have e := m.fr b o h h1 h2 h3
    refine n.fr b o e (fun q => ?_) (fun q => ?_) h3
    · rcases m.own b q with z | z
      · exact h1 z
      · rw [h] at z; cases z
    · rcases m.new b q with z | z
      · exact h2 z
      · rw [h] at z; cases z
  · rcases n.new a h with z | z
    · exact m.new a z
    · exact .inr (m.none a z)
  · exact m.th b h (n.none m.sim b q)
  · obtain ⟨ps', e⟩ := m.tb b ps h
    exact n.tb b ps' e
/-- the same, the names' places otherwise -/
theorem SimB.tgx {is : List Nat} (hz : bs.lp = Option.none ∨ 0 ∉ is) (m : SimB bs Z ρ s σ H) (t : Tgx Z ρ H s σ s1 σ1 is) : SimB bs Z ρ s1 σ1 H :=
  ⟨t.sim, m.fr, fun a h => m.own a (t.own a h), m.pre, m.new, m.th, m.tb, fun p h => by
    rcases hz with z | z
    · rw [z] at h; cases h
    · rw [t.out 0 z]; exact m.z0 p h⟩
/-- a new list or dict goes to a name -/
theorem Sim.setOwn {i : Nat} {v : PV} {a : Addr} (m : Sim Z ρ s σ H) (h : Ow Z ρ H v a) (no : ¬ ownA s σ a) : Sim Z ρ (s.put i (.own v)) (σ.set i (some (.ref a))) H ∧ ∀ b, ownA (s.put i (.own v)) (σ.set i (some (.ref a))) b → b = a ∨ ownA s σ b := by
  have en : ∀ j, j ≠ i → (s.env.set i (Slot.own v))[j]? = s.env[j]? := fun j hj => List.getElem?_set_ne (Ne.symm hj)
  have sn : ∀ j, j ≠ i → (σ.set i (some (V.ref a)))[j]? = σ[j]? := fun j hj => List.getElem?_set_ne (Ne.symm hj)
  have at_ : ∀ y, (s.env.set i (Slot.own v))[i]? = some y → y = .own v ∧ (σ.set i (some (V.ref a)))[i]? = some (some (.ref a)) := fun y q => by
    by_cases hl : i < s.env.length
    · rw [List.getElem?_set_self hl] at q
      exact ⟨(Option.some.inj q).symm, List.getElem?_set_self (by rw [← m.len]; exact hl)⟩
    · rw [List.getElem?_eq_none (by rw [List.length_set]; omega)] at q; cases q
  refine ⟨⟨?_, fun j w q => ?_, fun j w q => ?_, fun j k w u b q1 q2 q3 q4 => ?_, m.obs⟩, fun b q => ?_⟩
  · show (s.env.set i _).length = (σ.set i _).length
    rw [List.length_set, List.length_set]
    exact m.len
  · have q : (s.env.set i (Slot.own v))[j]? = some (.fr w) := q
    by_cases hj : j = i
    · subst hj
      have := (at_ _ q).1
      cases this
    · rw [en j hj] at q
      rw [sn j hj]
      exact m.fr j w q
  · have q : (s.env.set i (Slot.own v))[j]? = some (.own w) := q
    by_cases hj : j = i
    · subst hj
      obtain ⟨e1, e2⟩ := at_ _ q
      cases e1
      exact ⟨a, e2, h⟩
    · rw [en j hj] at q
      rw [sn j hj]
      exact m.own j w q
  · have q1 : (s.env.set i (Slot.own v))[j]? = some (.own w) := q1
    have q2 : (s.env.set i (Slot.own v))[k]? = some (.own u) := q2
    by_cases hj : j = i
    · by_cases hk : k = i
      · rw [hj, hk]
      · exfalso
        subst hj
        obtain ⟨e1, e2⟩ := at_ _ q1
        rw [e2] at q3
        cases q3
        rw [en k hk] at q2
        rw [sn k hk] at q4
        exact no ⟨k, u, q2, q4⟩
    · by_cases hk : k = i
      · exfalso
        subst hk
        obtain ⟨e1, e2⟩ := at_ _ q2
        rw [e2] at q4
        cases q4
        rw [en j hj] at q1
        rw [sn j hj] at q3
        exact no ⟨j, w, q1, q3⟩
      · rw [en j hj] at q1
        rw [sn j hj] at q3
        rw [en k hk] at q2
        rw [sn k hk] at q4
        exact m.dis j k w u b q1 q2 q3 q4
  · obtain ⟨j, w, q1, q2⟩ := q
    have q1 : (s.env.set i (Slot.own v))[j]? = some (.own w) := q1
    by_cases hj : j = i
    · subst hj
      obtain ⟨e1, e2⟩ := at_ _ q1
      rw [e2] at q2
      cases q2
      exact .inl rfl
    · rw [en j hj] at q1
      rw [sn j hj] at q2
      exact .inr ⟨j, w, q1, q2⟩
theorem set_self {σ : Sg} {i : Nat} {x : V} (h : σ[i]? = some (some x)) : σ.set i (some x) = σ := by
  apply List.ext_getElem?
  intro j
  by_cases hj : j = i
  · subst hj
    rw [List.getElem?_set_self (List.getElem?_eq_some_iff.mp h).1, h]
  · rw [List.getElem?_set_ne (Ne.symm hj)]
theorem SimB.setV {i : Nat} {r : RV} {x : V} {H0 : Hp} (hz : bs.lp = Option.none ∨ i ≠ 0) (m : SimB bs Z ρ s σ H) (k : (rRV Z σ).p bs.H0 ρ s H r x) (e : Qv.setV i r s = .ok () s1) : SimB bs Z ρ s1 (σ.set i (some x)) H := by
  cases r with
  | fr v =>
    cases e
    exact SimB.tgx (hz.imp id fun h z => h (List.mem_singleton.mp z).symm) m (Tgx.setFr m.sim k)
  | own v =>
    cases e
    obtain ⟨a, rfl, h2, h3, h4, h5⟩ := k
    obtain ⟨m1, ow⟩ := Sim.setOwn (i := i) m.sim h2 h3
    refine ⟨m1, m.fr, fun b h => ?_, m.pre, m.new, m.th, m.tb, fun p h => ?_⟩
    · rcases ow b h with z | z
      · rw [z]; exact .inr h5
      · exact m.own b z
    · rcases hz with z | z
      · rw [z] at h; cases h
      · rw [List.getElem?_set_ne z]; exact m.z0 p h
  | sl j =>
    have k : σ[j]? = some (some x) := k
    unfold Qv.setV at e
    dsimp only at e
    split at e
    · rename_i hj
      cases e
      subst hj
      rw [set_self k]
      exact m
    · cases e
end

/-! ### readings -/
def SPst (bs : Bs) (Z : Nm) (W : WX) (ρ : List Addr) (H : Hp) (r : R Fl) (D : Ends) : Prop := match r with
  | .ok .nx s' => ∀ ρ' σ' H', SimB bs Z ρ' s' σ' H' → Kp ρ H ρ' H' → D.nx σ' H'
  | .ok (.ret r) s' => ∀ ρ' σ' H' x, SimB bs Z ρ' s' σ' H' → Kp ρ H ρ' H' → (rRV Z σ').p bs.H0 ρ' s' H' r x → D.rt x H'
  | .exc c s' => ∀ ρ' σ' H', SimB bs Z ρ' s' σ' H' → Kp ρ H ρ' H' → W (.ref (Z.ca c)) none σ' H'
  | .bad => False
def rdS (bs : Bs) (Z : Nm) (W : WX) (F : FT) (c : St) : TS := fun D σ H => ∃ ρ s, SimB bs Z ρ s σ H ∧ SPst bs Z W ρ H (dS F c s) D
theorem _root_.L2.PS.impQ {X : Cx} {st : Stmt} {t t' : TS} (h : PS X st t) (k : ∀ D σ H, t' D σ H → t D σ H) : PS X st t' := ⟨fun pins s σ H D I q => h.run pins s σ H D I (k D σ H q)⟩
theorem _root_.L2.PSs.impQ {X : Cx} {st : List Stmt} {t t' : TS} (h : PSs X st t) (k : ∀ D σ H, t' D σ H → t D σ H) : PSs X st t' := ⟨fun pins s σ H D I q => h.run pins s σ H D I (k D σ H q)⟩
section
variable {bs : Bs} {Z : Nm} {W : WX} {F : FT} {X : Cx} {ρ : List Addr} {s s1 : Sta} {σ : Sg} {H : Hp}
/-- an expression, then what it leads to -/
theorem SPst.expr {α ξ : Type} {rel : Rl α ξ} {r : R α} {f : α → M Fl} {D : Ends} {Qm : ξ → Hp → Prop} (m : SimB bs Z ρ s σ H) (h : SPst bs Z W ρ H (r.bind f) D)
    (k : ∀ ρ1 s1 H1 a x, r = .ok a s1 → Nxt Z ρ s σ H ρ1 s1 H1 → rel.p H ρ1 s1 H1 a x → SPst bs Z W ρ H (f a s1) D → Qm x H1) : Pst Z W rel ρ s σ H r Qm := by
  cases r with
  | ok a s' => exact fun ρ' H' x n q => k ρ' s' H' a x rfl n q h
  | exc c s' => exact fun ρ' H' n => h ρ' σ H' (m.nxt n) (n.kp m.sim)
  | bad => exact h
theorem SPst.later {r : R Fl} {D : Ends} {ρ1 : List Addr} {H1 : Hp} (k : Kp ρ H ρ1 H1) (h : SPst bs Z W ρ H r D) : SPst bs Z W ρ1 H1 r D := by
  cases r with
  | bad => exact h
  | exc c s' => exact fun ρ' σ' H' m' kp => h ρ' σ' H' m' (k.trans kp)
  | ok f s' =>
    cases f with
    | nx => exact fun ρ' σ' H' m' kp => h ρ' σ' H' m' (k.trans kp)
    | ret r => exact fun ρ' σ' H' x m' kp q => h ρ' σ' H' x m' (k.trans kp) q
theorem SPst.assoc {α β : Type} {r : R α} {f : α → M β} {g : β → M Fl} {D : Ends} (h : SPst bs Z W ρ H (r.bind fun a s => (f a s).bind g) D) : SPst bs Z W ρ H ((r.bind f).bind g) D := by
  rw [R.bind_bind]
  exact h
theorem st_nil : PSs X [] (rdS bs Z W F .skip) := by
  refine pss_nil.impQ fun D σ H h => ?_
  obtain ⟨ρ, s, m, h⟩ := h
  exact h ρ σ H m .refl
theorem st_cons {a b : St} {st : Stmt} {sts : List Stmt} (h1 : PS X st (rdS bs Z W F a)) (h2 : PSs X sts (rdS bs Z W F b)) : PSs X (st :: sts) (rdS bs Z W F (.seq a b)) := by
  refine (pss_cons h1 h2).impQ fun D σ H h => ?_
  obtain ⟨ρ, s, m, h⟩ := h
  have h : SPst bs Z W ρ H ((dS F a s).bind fun f => (match f with
    | .nx => dS F b
    | .ret r => pure (.ret r) : M Fl)) D := h
  refine ⟨ρ, s, m, ?_⟩
  cases e : dS F a s with
  | bad => rw [e] at h; exact h
  | exc c s' => rw [e] at h; exact h
  | ok f s1 =>
    rw [e] at h
    cases f with
    | nx => exact fun ρ' σ' H' m' kp => ⟨ρ', s1, m', h.later kp⟩
    | ret r => exact h
/-- an expression that goes to the name i: its own list is settled -/
theorem PE.settleQ {c : E} {e : Expr} (i : Nat) (h : PE X e (rdE Z W F c)) : PE X e (rd Z W (rRV Z) (dE F c >>= settle i)) := by
  refine ⟨fun pins s σ H Q I hq => ?_⟩
  refine thn (h.run pins s σ H (fun x H1 => Q x H1 ∨ ∃ a vs, H1 a = some (.lst vs) ∧ ∀ o, Q x (upd H1 a (.frz o (.lst vs)))) I ?_) fun u s1 ⟨x, H1, I1, r, q⟩ => ?_
  · obtain ⟨ρ, st, m, hp⟩ := hq
    refine ⟨ρ, st, m, ?_⟩
    refine Pst.bind (rel2 := rRV Z σ) (f := settle i) m hp fun ρ1 s1 H1 r x e n k q => ?_
    cases r with
    | fr v => exact .inl (q ρ1 H1 x n k)
    | own v => exact .inl (q ρ1 H1 x n k)
    | sl j =>
      have k : σ[j]? = some (some x) := k
      unfold settle at q
      dsimp only at q
      split at q
      · exact .inl (q ρ1 H1 x n k)
      · have q := Pst.later m n q
        have q : Pst Z W (rRV Z σ) ρ1 s1 σ H1 ((match slotAt j s1 with
          | .fr v => R.ok v s1
          | .own v => .ok v (s1.put j (.fr v))
          | .no => .bad).bind fun v => pure (RV.fr v)) Q := q
        cases e : slotAt j s1 with
        | no => rw [e] at q; exact q.elim
        | fr v =>
          rw [e] at q
          obtain ⟨y, e1, e2⟩ := n.sim.fr j v (slot_get e (fun z => nomatch z))
          rw [k] at e1
          cases e1
          exact .inl (q ρ1 H1 x (.refl n.sim) e2)
        | own v =>
          rw [e] at q
          have e' := slot_get e (fun z => nomatch z)
          obtain ⟨a, e1, e2⟩ := n.sim.own j v e'
          rw [k] at e1
          cases e1
          cases e2 with
          | @lst _ xs vs ha hr =>
            refine .inr ⟨a, vs, ha, fun o => ?_⟩
            obtain ⟨n1, rp⟩ := Nxt.frzSl (o := o) n.sim e' k ha hr
            exact q ρ1 _ (.ref a) n1 rp
  · rcases q with q | ⟨a, vs, ha, q⟩
    · exact ⟨x, H1, I1, r, q⟩
    · obtain ⟨o, I2⟩ := inv_frz I1 ha
      exact ⟨x, _, I2, r, q o⟩
theorem st_asg_rd {i : Nat} {c : E} {D : Ends} {σ : Sg} {H : Hp} (hz : bs.lp = none ∨ i ≠ 0) (h : rdS bs Z W F (.asg i c) D σ H) : rd Z W (rRV Z) (dE F c >>= settle i) σ H fun x H1 => D.nx (σ.set i (some x)) H1 := by
  obtain ⟨ρ, s, m, h⟩ := h
  have h : SPst bs Z W ρ H ((dE F c s).bind fun r s => (settle i r s).bind fun r s => (setV i r s).bind fun _ => pure .nx) D := h
  have h : SPst bs Z W ρ H (((dE F c >>= settle i) s).bind fun r s => (setV i r s).bind fun _ => pure .nx) D := SPst.assoc h
  refine ⟨ρ, s, m.sim, SPst.expr m h fun ρ1 s1 H1 r x e n k q => ?_⟩
  have m1 := m.nxt n
  have k1 : (rRV Z σ).p bs.H0 ρ1 s1 H1 r x := (rRV Z σ).ant (fun b hb => m.none b hb) k
  cases e2 : setV i r s1 with
  | bad => rw [e2] at q; exact False.elim q
  | exc c s' =>
    exfalso
    cases r with
    | fr v => cases e2
    | own v => cases e2
    | sl j => unfold setV at e2; dsimp only at e2; split at e2 <;> cases e2
  | ok u s2 =>
    rw [e2] at q
    exact q ρ1 _ H1 (m1.setV (H0 := H) hz k1 e2) (n.kp m.sim)
theorem st_asg {i : Nat} {c : E} {x : Str} {e : Expr} {pos pos' : Pos} (hz : bs.lp = none ∨ i ≠ 0) (hN : X.N.Nodup) (hi : X.N[i]? = some x) (hx : Loc X.env.scope x) (he : PE X e (rdE Z W F c)) (hs : swapsWith e (some (.Name x pos')) pos.line X.env = pure false) (hf : X.fn x = true ∨ X.env.scope.names.lookup x = some .local) :
    PS X (.Assign [.Name x pos'] e pos) (rdS bs Z W F (.asg i c)) :=
  (ps_set hN hi hx (PE.settleQ i he) hs hf).impQ fun D σ H h => st_asg_rd hz h
theorem st_asgC_rd {i : Nat} {elt it cond : E} {tg : Tg} {own : List (Str × Nat)} {D : Ends} {σ : Sg} {H : Hp} (hz : bs.lp = none ∨ i ≠ 0) (hsub : ∀ j, j ∈ tg.slots → j ∈ own.map (·.2)) (h : rdS bs Z W F (.asg i (.comp elt tg it cond (own.map (·.2)))) D σ H) :
    tAsg (tLc (rdI Z W F it) (rdT Z tg) (rd Z (fun _ _ _ _ => False) (fun _ => rEq Bool) (condB cond (dE F cond))) (rdF Z (fun _ _ _ _ => False) F elt) (own.map (·.2))) (gName i) D σ H := by
  refine s_comp hsub σ H _ ?_
  obtain ⟨ρ, s, m, h⟩ := st_asg_rd hz h
  refine ⟨ρ, s, m, ?_⟩
  have e : (dE F (.comp elt tg it cond (own.map (·.2))) >>= settle i) s = dE F (.comp elt tg it cond (own.map (·.2))) s := by
    show (dE F (.comp elt tg it cond (own.map (·.2))) s).bind (settle i) = _
    show ((dI F it s).bind fun vs s => (noX (compGo (own.map (·.2)) (setTg tg) (condB cond (dE F cond)) (dE F elt >>= frz) vs []) s).bind fun ys => pure (RV.own (.lst ys))).bind (settle i) = (dI F it s).bind fun vs s => (noX (compGo (own.map (·.2)) (setTg tg) (condB cond (dE F cond)) (dE F elt >>= frz) vs []) s).bind fun ys => pure (RV.own (.lst ys))
    cases dI F it s with
    | bad => rfl
    | exc c s' => rfl
    | ok vs s1 =>
      show ((noX _ s1).bind _).bind _ = (noX _ s1).bind _
      cases noX (compGo (own.map (·.2)) (setTg tg) (condB cond (dE F cond)) (dE F elt >>= frz) vs []) s1 with
      | bad => rfl
      | exc c s' => rfl
      | ok ys s2 => rfl
  rw [e] at h
  exact h
/-- name = [..] on one line -/
theorem st_asgC {i : Nat} {y : Str} {py spos : Pos} {elt it cond : E} {tg : Tg} {own : List (Str × Nat)} {te ie eltE : Expr} {ifs : List Expr} {scope : Scope} {pos : Pos} (hz : bs.lp = none ∨ i ≠ 0) (hc : X.calm = true) (hN : X.N.Nodup) (hy : X.N[i]? = some y) (hyl : X.env.scope.names.lookup y = some .local)
    (hsw : swapsWith (.ListComp eltE [⟨te, ie, ifs, 0⟩] scope pos) (some (.Name y py)) spos.line X.env = pure true) (hi : PI X te ie (rdI Z W F it)) (ok : BlkOk X.N X.env.scope scope own)
    (hsub : ∀ j, j ∈ tg.slots → j ∈ own.map (·.2))
    (hg : ∀ (s : Shared) (H : Hp) (C : Addr) (cl : List (Str × Addr)) (fp : List Addr), PG (X.blk s H scope (compEnvC scope cl C X.env) fp) te (rdT Z tg))
    (ht : ∀ (s : Shared) (H : Hp) (C : Addr) (cl : List (Str × Addr)) (fp : List Addr), PTs (X.blk s H scope (compEnvC scope cl C X.env) fp) ifs (rd Z (fun _ _ _ _ => False) (fun _ => rEq Bool) (condB cond (dE F cond))))
    (he : ∀ (s : Shared) (H : Hp) (C : Addr) (cl : List (Str × Addr)) (fp : List Addr), PE (X.blk s H scope (compEnvC scope cl C X.env) fp) eltE (rdE Z (fun _ _ _ _ => False) F elt))
    (hs : ∀ x, foldedSetIterable ie X.env x = pure x) : PS X (.Assign [.Name y py] (.ListComp eltE [⟨te, ie, ifs, 0⟩] scope pos) spos) (rdS bs Z W F (.asg i (.comp elt tg it cond (own.map (·.2))))) := by
  exact (ps_setLc hc hN hy hyl hsw hi ok hg ht (fun s H C cl fp => PE.frz (he s H C cl fp)) hs).impQ fun D σ H h => st_asgC_rd hz hsub h
theorem st_exp {c : E} {e : Expr} {pos : Pos} (he : PE X e (rdE Z W F c)) (hs : swapsWith e none pos.line X.env = pure false) : PS X (.Expr e pos) (rdS bs Z W F (.exp c)) := by
  refine (ps_expr he hs).impQ fun D σ H h => ?_
  obtain ⟨ρ, s, m, h⟩ := h
  have h : SPst bs Z W ρ H ((dE F c s).bind fun _ => pure .nx) D := h
  exact ⟨ρ, s, m.sim, SPst.expr m h fun ρ1 s1 H1 r x e n k q => q ρ1 σ H1 (m.nxt n) (n.kp m.sim)⟩
theorem st_ret {c : E} {e : Expr} {pos : Pos} (he : PE X e (rdE Z W F c)) : PS X (.Return (some e) pos) (rdS bs Z W F (.ret c)) := by
  refine (ps_ret he).impQ fun D σ H h => ?_
  obtain ⟨ρ, s, m, h⟩ := h
  have h : SPst bs Z W ρ H ((dE F c s).bind fun r => pure (.ret r)) D := h
  exact ⟨ρ, s, m.sim, SPst.expr m h fun ρ1 s1 H1 r x e n k q => q ρ1 σ H1 x (m.nxt n) (n.kp m.sim) ((rRV Z σ).ant (fun b hb => m.none b hb) k)⟩
theorem st_if {c : E} {a b : St} {e : Expr} {sa sb : List Stmt} {pos : Pos} (hc : PT X e (rdB Z W F c)) (ha : PSs X sa (rdS bs Z W F a)) (hb : PSs X sb (rdS bs Z W F b)) : PS X (.If e sa sb pos) (rdS bs Z W F (.ifs c a b)) := by
  refine (ps_if hc ha hb).impQ fun D σ H h => ?_
  obtain ⟨ρ, s, m, h⟩ := h
  have h : SPst bs Z W ρ H (((dE F c >>= rvB) s).bind fun x => if x then dS F a else dS F b) D := h
  refine ⟨ρ, s, m.sim, SPst.expr m h fun ρ1 s1 H1 r x e n k q => ?_⟩
  cases k
  cases r with
  | true => exact ⟨ρ1, s1, m.nxt n, q.later (n.kp m.sim)⟩
  | false => exact ⟨ρ1, s1, m.nxt n, q.later (n.kp m.sim)⟩
mutual
theorem setTg_exc : ∀ (t : Tg) (v : PV) (s : Sta) (c : Nat) (s' : Sta), setTg t v s ≠ .exc c s'
  | .nm i, v, s, c, s' => fun h => nomatch h
  | .tp ts, v, s, c, s' => by
    cases v with
    | tup xs => exact setTgs_exc ts xs s c s'
    | _ => exact fun h => nomatch h
  | .nil, v, s, c, s' => fun h => nomatch h
  | .cons t ts, v, s, c, s' => fun h => nomatch h
theorem setTgs_exc : ∀ (t : Tg) (v : List PV) (s : Sta) (c : Nat) (s' : Sta), setTgs t v s ≠ .exc c s'
  | .nil, [], s, c, s' => fun h => nomatch h
  | .nil, _ :: _, s, c, s' => fun h => nomatch h
  | .cons t ts, [], s, c, s' => fun h => nomatch h
  | .cons t ts, x :: xs, s, c, s' => by
    intro h
    have h : (setTg t x s).bind (fun _ => setTgs ts xs) = .exc c s' := h
    cases e : setTg t x s with
    | bad => rw [e] at h; cases h
    | exc c s' => exact setTg_exc t x s c s' e
    | ok u s1 => rw [e] at h; exact setTgs_exc ts xs s1 c s' h
  | .nm i, v, s, c, s' => fun h => by cases v <;> cases h
  | .tp ts, v, s, c, s' => fun h => by cases v <;> cases h
end
theorem st_asgT {t : Tg} {c : E} {tg e : Expr} {pos : Pos} (hz : bs.lp = none ∨ 0 ∉ t.slots) (he : PE X e (rdE Z W F c)) (hg : PG X tg (rdT Z t)) (hs : swapsWithSole [tg] e pos.line X.env = pure false) (hw : swappedStores [tg] e X.env = pure none) (h1 : (assignEach [tg] X.env).map (·.2) = [assign tg X.env]) :
    PS X (.Assign [tg] e pos) (rdS bs Z W F (.asgT t c)) := by
  refine (ps_asg (PE.frz he) hg hs hw h1).impQ fun D σ H h => ?_
  obtain ⟨ρ, s, m, h⟩ := h
  have h : SPst bs Z W ρ H ((dE F c s).bind fun r s => (frz r s).bind fun v s => (setTg t v s).bind fun _ => pure .nx) D := h
  have h : SPst bs Z W ρ H (((dE F c >>= frz) s).bind fun v s => (setTg t v s).bind fun _ => pure .nx) D := SPst.assoc h
  refine ⟨ρ, s, m.sim, SPst.expr m h fun ρ1 s1 H1 v x e n k q => ?_⟩
  have m1 := m.nxt n
  refine ⟨ρ1, s1, v, n.sim, k, ?_⟩
  cases e2 : setTg t v s1 with
  | bad => rw [e2] at q; exact q
  | exc c s' => exact absurd e2 (setTg_exc t v s1 c s')
  | ok u s2 =>
    rw [e2] at q
    exact fun σ' tx => q ρ1 σ' H1 (SimB.tgx hz m1 tx) (n.kp m.sim)
theorem own_cases (i : Nat) (s : Sta) : (∃ v, slotAt i s = .own v ∧ ownAt i s = .ok v s) ∨ ownAt i s = .bad := by
  unfold ownAt
  cases q : slotAt i s with
  | own v => exact .inl ⟨v, rfl, rfl⟩
  | no => exact .inr rfl
  | fr v => exact .inr rfl
/-- a name's own list is changed -/
theorem Nxt.updOwn {i : Nat} {v w : PV} {p : Addr} {ws : List V} (m : Sim Z ρ s σ H) (ei : s.env[i]? = some (.own v)) (ep : σ[i]? = some (some (.ref p))) (h : Ow Z ρ (upd H p (.lst ws)) w p) : Nxt Z ρ s σ H ρ (s.put i (.own w)) (upd H p (.lst ws)) := by
  obtain ⟨vs, e⟩ := m.ownAt ⟨i, v, ei, ep⟩
  have kp : Kp ρ H ρ (upd H p (.lst ws)) := by
    refine ⟨fun b ws q => ?_, fun b o' u q => ?_, List.prefix_refl _⟩
    · rw [upd_ne (ne_of q e (fun z => nomatch z))]; exact q
    · rw [upd_ne (ne_of q e (fun z => nomatch z))]; exact q
  refine CNxt.nxtb m ei ep ⟨⟨m.obs.len, m.obs.nd, fun n ob b q1 q2 => ?_, tab_upd e m.obs.tab⟩, List.prefix_refl _, fun _ q => .inl q, fun b o q h1 _ _ => ?_, tb_upd e, fun p' h' => ?_⟩
  · obtain ⟨dx, fs, e1, e2, e3⟩ := m.obs.at_ n ob b q1 q2
    exact ⟨dx, fs, by rw [upd_ne (ne_of e1 e (fun z => nomatch z))]; exact e1, e2.mono kp, e3⟩
  · rw [upd_ne (fun z => h1 (by rw [z]))]
    exact q
  · cases h'
    exact h
theorem Ow.upd {p : Addr} {xs : List PV} {vs ws : List V} (e : H p = some (.lst vs)) (r : Rps Z ρ H xs ws) : Ow Z ρ (upd H p (.lst ws)) (.lst xs) p := by
  refine .lst upd_same (r.mono ⟨fun b ws q => ?_, fun b o' u q => ?_, List.prefix_refl _⟩)
  · rw [upd_ne (ne_of q e (fun z => nomatch z))]; exact q
  · rw [upd_ne (ne_of q e (fun z => nomatch z))]; exact q
/-- x.append(e) -/
theorem st_app {i : Nat} {c : E} {x : Str} {e : Expr} {p1 apos cpos pos : Pos} (hN : X.N[i]? = some x) (hv : Vis X.env.scope x) (hd : (x == ("__debug__" : Str)) = false) (hcd : (x == ("__classdict__" : Str)) = false)
    (he : PE X e (rdE Z W F c)) (hp : plainE e = true) (hline : (apos.endLine == cpos.line) = true) : PS X (.Expr (.Call (.Attribute (.Name x p1) "append" apos) [e] [] cpos) pos) (rdS bs Z W F (.app i c)) := by
  have hfew : ((backTo cpos (starEach [e] X.env)).all (fun x => !x.1) && (backToKw cpos (keywordEach [] X.env)).all (fun x => x.1.isSome)
      && decide (([e] : List Expr).length + ([] : List Keyword).length + (if ([] : List Keyword).isEmpty then 0 else 1) < 30)) = true := by
    rw [star_cons hp]
    rfl
  refine (ps_expr (pe_bm PySem.F.plainAttrs_list PySem.F.slot_list_append PySem.F.type_list_append mt_append (pe_var (pos := p1) hN hv hd hcd) (pa_cons (PE.frz he) pa_nil (star_cons hp)) rfl hfew hline (star_cons hp) rfl) rfl).impQ fun D σ H h => ?_
  obtain ⟨ρ, s, m, h⟩ := h
  have h : SPst bs Z W ρ H ((ownAt i s).bind fun _ s => (dE F c s).bind fun r s => (frz r s).bind fun v s => (ownAt i s).bind fun c s => (M.ofO (appV c v) s).bind fun c s => (putM i (.own c) s).bind fun _ => pure .nx) D := h
  rcases own_cases i s with ⟨v0, e0, e1⟩ | e1
  · rw [e1] at h
    have h : SPst bs Z W ρ H (((dE F c >>= frz) s).bind fun v s => (ownAt i s).bind fun c s => (M.ofO (appV c v) s).bind fun c s => (putM i (.own c) s).bind fun _ => pure .nx) D := SPst.assoc h
    obtain ⟨p, ep, ow⟩ := m.sim.own i v0 (slot_get e0 (fun z => nomatch z))
    obtain ⟨vs0, e0'⟩ := ow.get
    refine ⟨_, ep, .inl ⟨rfl, _, .inl (.inl e0')⟩, ρ, s, m.sim, SPst.expr m h fun ρ1 s1 H1 y yv e n k q => ?_⟩
    rcases own_cases i s1 with ⟨v1, e2, e3⟩ | e3
    · rw [e3] at q
      have q : SPst bs Z W ρ H ((M.ofO (appV v1 y) s1).bind fun c s => (putM i (.own c) s).bind fun _ => pure .nx) D := q
      have ei := slot_get e2 (fun z => nomatch z)
      obtain ⟨p', ep', ow'⟩ := n.sim.own i v1 ei
      rw [ep] at ep'
      cases ep'
      cases ow' with
      | @lst _ xs vs hL rL =>
        by_cases hl : lenOk xs.length = true
        · rw [show appV (.lst xs) y = some (.lst (xs ++ [y])) from if_pos hl] at q
          have q : SPst bs Z W ρ H (.ok .nx (s1.put i (.own (.lst (xs ++ [y]))))) D := q
          refine ⟨p, vs, yv, rfl, rfl, hL, by rw [← rL.length]; exact lenOk_line hl, ?_⟩
          have nx := Nxt.updOwn n.sim ei ep (Ow.upd hL (rL.append (.cons k .nil)))
          exact q ρ1 σ _ ((m.nxt n).nxt nx) ((n.kp m.sim).trans (nx.kp n.sim))
        · rw [show appV (.lst xs) y = none from if_neg hl] at q
          exact False.elim q
    · rw [e3] at q
      exact False.elim q
  · rw [e1] at h
    exact False.elim h
theorem setIx_lst {xs : List PV} {k v c : PV} (h : setIx (.lst xs) k v = some c) : ∃ i : Nat, k = .int i ∧ i < xs.length ∧ c = .lst (xs.set i v) := by
  unfold setIx at h
  cases k with
  | int j =>
    dsimp only at h
    split at h
    · split at h
      · rename_i h1 h2
        cases h
        exact ⟨j.toNat, by rw [Int.toNat_of_nonneg h1], h2, rfl⟩
      · cases h
    · cases h
  | _ => cases h
theorem ixN_nat {n i : Nat} (h : i < n) : ixN n (i : Int) = some i := by
  unfold ixN
  rw [if_pos (by omega), if_pos (by omega)]
  rfl
/-- x[k] = v -/
theorem st_ixs {i : Nat} {ck cv : E} {x : Str} {ke ve : Expr} {p1 p2 pos : Pos} (hN : X.N[i]? = some x) (hv : Vis X.env.scope x) (hd : (x == ("__debug__" : Str)) = false) (hcd : (x == ("__classdict__" : Str)) = false)
    (hk : PE X ke (rdE Z W F ck)) (he : PE X ve (rdE Z W F cv)) (hs : swapsWithSole [.Subscript (.Name x p1) ke p2] ve pos.line X.env = pure false) (hw : swappedStores [.Subscript (.Name x p1) ke p2] ve X.env = pure none)
    (ha : ∀ v, assign (.Subscript (.Name x p1) ke p2) X.env v = (do
      let ov ← holding [v] (eval (.Name x p1) X.env)
      let iv ← holding [v, ov] (eval ke X.env)
      standAt p2
      holding [v, ov, iv] (setItem ov iv v)
      release [v, ov, iv] [])) : PS X (.Assign [.Subscript (.Name x p1) ke p2] ve pos) (rdS bs Z W F (.ixs i ck cv)) := by
  refine (ps_asg (PE.frz he) (pg_sub (pe_var (pos := p1) hN hv hd hcd) (PE.frz hk) set_list ha) hs hw rfl).impQ fun D σ H h => ?_
  obtain ⟨ρ, s, m, h⟩ := h
  have h : SPst bs Z W ρ H ((dE F cv s).bind fun r s => (frz r s).bind fun v s => (ownAt i s).bind fun _ s => (dE F ck s).bind fun r s => (frz r s).bind fun k s => (ownAt i s).bind fun c s => (M.ofO (setIx c k v) s).bind fun c s => (putM i (.own c) s).bind fun _ => pure .nx) D := h
  have h : SPst bs Z W ρ H (((dE F cv >>= frz) s).bind fun v s => (ownAt i s).bind fun _ s => (dE F ck s).bind fun r s => (frz r s).bind fun k s => (ownAt i s).bind fun c s => (M.ofO (setIx c k v) s).bind fun c s => (putM i (.own c) s).bind fun _ => pure .nx) D := SPst.assoc h
  refine ⟨ρ, s, m.sim, SPst.expr m h fun ρ1 s1 H1 y yv e n k q => ?_⟩
  have k : Rp Z ρ1 H1 y yv := k
  have m1 := m.nxt n
  rcases own_cases i s1 with ⟨v0, e0, e1⟩ | e1
  · rw [e1] at q
    have q : SPst bs Z W ρ H (((dE F ck >>= frz) s1).bind fun k s => (ownAt i s).bind fun c s => (M.ofO (setIx c k y) s).bind fun c s => (putM i (.own c) s).bind fun _ => pure .nx) D := SPst.assoc q
    obtain ⟨p, ep, ow⟩ := n.sim.own i v0 (slot_get e0 (fun z => nomatch z))
    refine ⟨_, ep, ρ1, s1, n.sim, SPst.expr m1 (q.later (n.kp m.sim)) fun ρ2 s2 H2 kk kv e n2 k2 q => ?_⟩
    have k2 : Rp Z ρ2 H2 kk kv := k2
    have k1 : Rp Z ρ2 H2 y yv := k.mono (n2.kp n.sim)
    rcases own_cases i s2 with ⟨v1, e2, e3⟩ | e3
    · rw [e3] at q
      have q : SPst bs Z W ρ1 H1 ((M.ofO (setIx v1 kk y) s2).bind fun c s => (putM i (.own c) s).bind fun _ => pure .nx) D := q
      have ei := slot_get e2 (fun z => nomatch z)
      obtain ⟨p', ep', ow'⟩ := n2.sim.own i v1 ei
      rw [ep] at ep'
      cases ep'
      cases ow' with
      | @lst _ xs vs hL rL =>
        cases e4 : setIx (.lst xs) kk y with
        | none => rw [e4] at q; exact False.elim q
        | some c =>
          rw [e4] at q
          have q : SPst bs Z W ρ1 H1 (.ok .nx (s2.put i (.own c))) D := q
          obtain ⟨j, rfl, hj, rfl⟩ := setIx_lst e4
          cases k2
          refine ⟨p, vs, j, j, rfl, rfl, hL, ixN_nat (by rw [← rL.length]; exact hj), ?_⟩
          have nx := Nxt.updOwn n2.sim ei ep (Ow.upd hL (rL.set j k1))
          exact q ρ2 σ _ ((m1.nxt n2).nxt nx) ((n2.kp n.sim).trans (nx.kp n2.sim))
    · rw [e3] at q
      exact False.elim q
  · rw [e1] at q
    exact False.elim q
end
end Qv
end
section
set_option Elab.async false
set_option linter.all false
set_option autoImplicit false
set_option maxRecDepth 100000
set_option maxHeartbeats 1000000
/-! Q12: loops, several names at once, raise; defs. -/
namespace Qv
open PySem PySem.Spec PyProof.Rows L2
section
variable {bs : Bs} {Z : Nm} {W : WX} {F : FT} {X : Cx} {ρ : List Addr} {s s1 : Sta} {σ : Sg} {H : Hp}
theorem SPst.ends {r : R Fl} {D D' : Ends} (h : SPst bs Z W ρ H r D) (hr : D'.rt = D.rt) (hn : ∀ s', r = .ok .nx s' → ∀ ρ' σ' H', SimB bs Z ρ' s' σ' H' → Kp ρ H ρ' H' → D'.nx σ' H') : SPst bs Z W ρ H r D' := by
  cases r with
  | bad => exact h
  | exc c s' => exact h
  | ok f s' =>
    cases f with
    | nx => exact hn s' rfl
    | ret r =>
      intro ρ' σ' H' x m' kp q
      rw [hr]
      exact h ρ' σ' H' x m' kp q
/-- first r, then f (and a return goes through) -/
theorem SPst.seq {r : R Fl} {f : M Fl} {D D' : Ends} (h : SPst bs Z W ρ H (r.bind fun x => (match x with
    | .nx => f
    | .ret r => pure (.ret r) : M Fl)) D) (hr : D'.rt = D.rt) (hn : ∀ s', ∀ ρ' σ' H', SimB bs Z ρ' s' σ' H' → Kp ρ H ρ' H' → SPst bs Z W ρ' H' (f s') D → D'.nx σ' H') : SPst bs Z W ρ H r D' := by
  cases r with
  | bad => exact h
  | exc c s' => exact h
  | ok x s' =>
    cases x with
    | nx => exact fun ρ' σ' H' m' kp => hn s' ρ' σ' H' m' kp (SPst.later kp h)
    | ret r =>
      intro ρ' σ' H' x m' kp q
      rw [hr]
      exact h ρ' σ' H' x m' kp q
theorem st_whl {c : E} {b : St} {e : Expr} {body : List Stmt} {pos : Pos} (hp : PassesOwn (model X.prog X.w) X.A X.env X.xe) (hc : PT X e (rdB Z W F c)) (hb : PSs X body (rdS bs Z W F b)) : PS X (.While e body [] pos) (rdS bs Z W F (.whl c b)) := by
  refine (ps_while hp hc hb).impQ fun D σ H h => ?_
  obtain ⟨ρ, s, m, h⟩ := h
  refine ⟨fun n σ H => ∃ ρ s, SimB bs Z ρ s σ H ∧ SPst bs Z W ρ H (whlGo (dE F c >>= rvB) (dS F b) n s) D, ⟨1000, ρ, s, m, h⟩, ?_⟩
  rintro n σ H ⟨ρ, s, m, h⟩
  cases n with
  | zero => exact False.elim h
  | succ n =>
    have h : SPst bs Z W ρ H (((dE F c >>= rvB) s).bind fun x => if x then (do
        let f ← dS F b
        match f with
        | .nx => whlGo (dE F c >>= rvB) (dS F b) n
        | .ret r => pure (.ret r)) else pure .nx) D := h
    refine ⟨ρ, s, m.sim, SPst.expr m h fun ρ1 s1 H1 r x e nn k q => ?_⟩
    cases k
    cases r with
    | false => exact q ρ1 σ H1 (m.nxt nn) (nn.kp m.sim)
    | true =>
      rw [if_pos rfl]
      refine ⟨fun σ' H' => ∃ ρ s, SimB bs Z ρ s σ' H' ∧ SPst bs Z W ρ H' (whlGo (dE F c >>= rvB) (dS F b) n s) D, fun σ' H' h' => ⟨n, Nat.lt_succ_self n, h'⟩, ρ1, s1, m.nxt nn, ?_⟩
      have q : SPst bs Z W ρ1 H1 ((dS F b s1).bind fun x => (match x with
        | .nx => whlGo (dE F c >>= rvB) (dS F b) n
        | .ret r => pure (.ret r) : M Fl)) D := SPst.later (nn.kp m.sim) q
      exact SPst.seq q rfl fun s' ρ' σ' H' m' kp q' => ⟨ρ', s', m', q'⟩
theorem st_for {t : Tg} {it : E} {b : St} {tg ie : Expr} {body : List Stmt} {pos : Pos} (hz : bs.lp = none ∨ 0 ∉ t.slots) (hp : PassesOwn (model X.prog X.w) X.A X.env X.xe) (hc : X.calm = true) (hi : PI X tg ie (rdI Z W F it)) (hg : PG X tg (rdT Z t)) (hb : PSs X body (rdS bs Z W F b))
    (hs : ∀ x, foldedSetIterable ie X.env x = pure x) : PS X (.For tg ie body [] pos) (rdS bs Z W F (.fr t it b)) := by
  refine (ps_for hp hc hi hg hb hs).impQ fun D σ H h => ?_
  obtain ⟨ρ, s, m, h⟩ := h
  have h : SPst bs Z W ρ H ((dI F it s).bind fun vs => forGo (setTg t) (dS F b) vs) D := h
  refine ⟨ρ, s, m.sim, SPst.expr m h fun ρ1 s1 H1 vs J e n k q => ?_⟩
  obtain ⟨⟨st, src, hst⟩, hlen⟩ := k
  refine ⟨fun i mm σ H => mm = vs.length - i ∧ i ≤ vs.length ∧ ∃ ρ s, SimB bs Z ρ s σ H ∧ st ρ H ∧ SPst bs Z W ρ H (forGo (setTg t) (dS F b) (vs.drop i) s) D, ⟨vs.length, rfl, Nat.zero_le _, ρ1, s1, m.nxt n, hst, SPst.later (n.kp m.sim) q⟩, ?_⟩
  rintro i mm σ H ⟨rfl, hi, ρ, s, m, hst, h⟩
  by_cases hlt : i < vs.length
  · refine .inr ⟨src.go i hst hlt, ?_⟩
    obtain ⟨v, r, hvr⟩ : ∃ v r, vs.drop i = v :: r := ⟨_, _, List.drop_eq_getElem_cons hlt⟩
    have hv : vs[i]? = some v := by
      have := congrArg (fun l => l[0]?) hvr
      simpa using this
    have hr : vs.drop (i + 1) = r := by
      have := congrArg List.tail hvr
      simpa using this
    refine ⟨fun σ' H' => ∃ ρ s, SimB bs Z ρ s σ' H' ∧ st ρ H' ∧ SPst bs Z W ρ H' (forGo (setTg t) (dS F b) r s) D, fun σ' H' h' => ⟨vs.length - (i + 1), by omega, rfl, hlt, by rw [hr]; exact h'⟩, fun x H' hy => ?_⟩
    obtain ⟨sm, rv⟩ := src.yld i x H' v hst hv hy
    have m1 := m.nxt (Nxt.same m.sim sm)
    have kp1 := kp_same (ρ := ρ) sm
    rw [hvr] at h
    have h : SPst bs Z W ρ H ((setTg t v s).bind fun _ s => ((dS F b s).bind fun x => (match x with
      | .nx => forGo (setTg t) (dS F b) r
      | .ret r => pure (.ret r) : M Fl))) D := h
    refine ⟨ρ, s, v, m1.sim, rv, ?_⟩
    cases e1 : setTg t v s with
    | bad => rw [e1] at h; exact h
    | exc c s' => exact absurd e1 (setTg_exc t v s c s')
    | ok u sa =>
      rw [e1] at h
      have h : SPst bs Z W ρ H ((dS F b sa).bind fun x => (match x with
        | .nx => forGo (setTg t) (dS F b) r
        | .ret r => pure (.ret r) : M Fl)) D := h
      intro σ2 tx
      refine ⟨ρ, sa, SimB.tgx hz m1 tx, SPst.seq (SPst.later kp1 h) rfl fun s' ρ' σ' H' m' kp q' => ⟨ρ', s', m', src.keep (kp1.trans kp) hst, q'⟩⟩
  · have e : i = vs.length := by omega
    subst e
    refine .inl ⟨src.stop _ hst (Nat.le_refl _), ?_⟩
    rw [List.drop_length] at h
    exact h ρ σ H m .refl
/-! ### several names -/
structure RVs (Z : Nm) (σ : Sg) (H0 : Hp) (ρ : List Addr) (s : Sta) (H : Hp) (rs : List RV) (xs : List V) : Prop where
  len : rs.length = xs.length
  at_ : ∀ (i : Nat) (r : RV) (x : V), rs[i]? = some r → xs[i]? = some x → (rRV Z σ).p H0 ρ s H r x ∧ ∀ j, r ≠ .sl j
  dst : ∀ (i j : Nat) (v w : PV) (a : Addr), rs[i]? = some (.own v) → rs[j]? = some (.own w) → xs[i]? = some (.ref a) → xs[j]? = some (.ref a) → i = j
def rRVs (Z : Nm) (σ : Sg) : Rl (List RV) (List V) where
  p H0 ρ s H rs xs := RVs Z σ H0 ρ s H rs xs
  ant := fun k h => ⟨h.len, fun i r x h1 h2 => ⟨(rRV Z σ).ant k (h.at_ i r x h1 h2).1, (h.at_ i r x h1 h2).2⟩, h.dst⟩
theorem PE.noSl {c : E} {e : Expr} (h : PE X e (rdE Z W F c)) : PE X e (rd Z W (rRV Z) (dE F c >>= noSl)) := by
  refine ⟨fun pins s σ H Q I hq => ?_⟩
  refine thn (h.run pins s σ H (fun x H1 => Q x H1 ∨ ∃ a vs, H1 a = some (.lst vs) ∧ ∀ o, Q x (upd H1 a (.frz o (.lst vs)))) I ?_) fun u s1 ⟨x, H1, I1, r, q⟩ => ?_
  · obtain ⟨ρ, st, m, hp⟩ := hq
    refine ⟨ρ, st, m, ?_⟩
    refine Pst.bind (rel2 := rRV Z σ) (f := Qv.noSl) m hp fun ρ1 s1 H1 r x e n k q => ?_
    cases r with
    | fr v => exact .inl (q ρ1 H1 x n k)
    | own v => exact .inl (q ρ1 H1 x n k)
    | sl j =>
      have k : σ[j]? = some (some x) := k
      have q := Pst.later m n q
      have q : Pst Z W (rRV Z σ) ρ1 s1 σ H1 ((match slotAt j s1 with
        | .fr v => R.ok v s1
        | .own v => .ok v (s1.put j (.fr v))
        | .no => .bad).bind fun v => pure (RV.fr v)) Q := q
      cases e : slotAt j s1 with
      | no => rw [e] at q; exact q.elim
      | fr v =>
        rw [e] at q
        obtain ⟨y, e1, e2⟩ := n.sim.fr j v (slot_get e (fun z => nomatch z))
        rw [k] at e1
        cases e1
        exact .inl (q ρ1 H1 x (.refl n.sim) e2)
      | own v =>
        rw [e] at q
        have e' := slot_get e (fun z => nomatch z)
        obtain ⟨a, e1, e2⟩ := n.sim.own j v e'
        rw [k] at e1
        cases e1
        cases e2 with
        | @lst _ xs vs ha hr =>
          refine .inr ⟨a, vs, ha, fun o => ?_⟩
          obtain ⟨n1, rp⟩ := Nxt.frzSl (o := o) n.sim e' k ha hr
          exact q ρ1 _ (.ref a) n1 rp
  · rcases q with q | ⟨a, vs, ha, q⟩
    · exact ⟨x, H1, I1, r, q⟩
    · obtain ⟨o, I2⟩ := inv_frz I1 ha
      exact ⟨x, _, I2, r, q o⟩
def rdV (Z : Nm) (W : WX) (F : FT) (c : E) : TA := rd Z W (rRVs Z) (dV F c)
theorem v_nil : PA X [] (rdV Z W F .nil) := by
  refine pa_nil.impQ fun σ H Q h => ?_
  obtain ⟨ρ, s, m, h⟩ := h
  exact h ρ H [] (.refl m) ⟨rfl, fun i r x h => by simp at h, fun i j v w a h => by simp at h⟩
theorem noSl_ne {r r' : RV} {s s' : Sta} (h : Qv.noSl r s = .ok r' s') : ∀ j, r' ≠ .sl j := by
  intro j e
  cases r with
  | fr v => cases h; cases e
  | own v => cases h; cases e
  | sl i =>
    have h : (frz (.sl i) s).bind (fun v => pure (RV.fr v)) = .ok r' s' := h
    cases q : frz (.sl i) s with
    | bad => rw [q] at h; cases h
    | exc c s1 => rw [q] at h; cases h
    | ok v s1 => rw [q] at h; cases h; cases e
theorem v_cons {a as : E} {e : Expr} {es : List Expr} (ha : PE X e (rdE Z W F a)) (hs : PA X es (rdV Z W F as)) (hp : plainE e = true) : PA X (e :: es) (rdV Z W F (.cons a as)) := by
  refine (pa_cons (PE.noSl ha) hs (star_cons hp)).impQ fun σ H Q h => ?_
  obtain ⟨ρ, s, m, h⟩ := h
  have h : Pst Z W (rRVs Z σ) ρ s σ H ((dE F a s).bind fun x s => (Qv.noSl x s).bind fun x => (do let xs ← dV F as; pure (x :: xs))) Q := h
  have h : Pst Z W (rRVs Z σ) ρ s σ H (((dE F a >>= Qv.noSl) s).bind fun x => (do let xs ← dV F as; pure (x :: xs))) Q := Pst.unassoc h
  refine ⟨ρ, s, m, Pst.bind (rel2 := rRVs Z σ) m h fun ρ1 s1 H1 v x e n k q => ?_⟩
  have hns : ∀ j, v ≠ .sl j := by
    have e : (dE F a s).bind Qv.noSl = .ok v s1 := e
    cases e2 : dE F a s with
    | bad => rw [e2] at e; cases e
    | exc c s' => rw [e2] at e; cases e
    | ok r s' => rw [e2] at e; exact noSl_ne e
  refine ⟨ρ1, s1, n.sim, ?_⟩
  have q : Pst Z W (rRVs Z σ) ρ s σ H ((dV F as s1).bind fun xs => pure (v :: xs)) Q := q
  cases e2 : dV F as s1 with
  | bad => rw [e2] at q; exact q
  | exc c s' => rw [e2] at q; exact fun ρ' H' n2 => q ρ' H' (n.trans m n2)
  | ok vs s2 =>
    rw [e2] at q
    intro ρ2 H2 xs n2 k2
    have k2 : RVs Z σ H1 ρ2 s2 H2 vs xs := k2
    have k' := rRV_step n.sim n2 k
    have low : ∀ b, H1 b = none → H b = none := n.none m
    have tr : ∀ (w : PV) (a : Addr), v = .own w → x = .ref a → H1 a ≠ none := fun w a e1 e2 z => by
      subst e1
      obtain ⟨b, h1, h2, _⟩ := k
      rw [e2] at h1
      cases h1
      obtain ⟨us, h3⟩ := h2.get
      rw [z] at h3
      cases h3
    have fr : ∀ (j : Nat) (w : PV) (a : Addr), vs[j]? = some (.own w) → xs[j]? = some (.ref a) → H1 a = none := fun j w a h1 h2 => by
      obtain ⟨⟨b, e, _, _, _, h5⟩, _⟩ := k2.at_ j _ _ h1 h2
      cases e
      exact h5
    refine q ρ2 H2 (x :: xs) (n.trans m n2) ⟨congrArg (· + 1) k2.len, fun i r y h1 h2 => ?_, fun i j w u a h1 h2 h3 h4 => ?_⟩
    · cases i with
      | zero => cases h1; cases h2; exact ⟨k', hns⟩
      | succ i => obtain ⟨z1, z2⟩ := k2.at_ i r y h1 h2; exact ⟨(rRV Z σ).ant low z1, z2⟩
    · cases i with
      | zero =>
        cases j with
        | zero => rfl
        | succ j =>
          exfalso
          exact tr w a (Option.some.inj h1) (Option.some.inj h3) (fr j u a h2 h4)
      | succ i =>
        cases j with
        | zero =>
          exfalso
          exact tr u a (Option.some.inj h2) (Option.some.inj h4) (fr i w a h1 h3)
        | succ j => rw [k2.dst i j w u a h1 h2 h3 h4]
/-- the names' places behind several stores -/
def sets (σ : Sg) : List Nat → List V → Sg
  | i :: is, x :: xs => sets (σ.set i (some x)) is xs
  | _, _ => σ
theorem SimB.setVs : ∀ {is : List Nat} {rs : List RV} {xs : List V} {s s1 : Sta} {σ : Sg}, (bs.lp = Option.none ∨ 0 ∉ is) → SimB bs Z ρ s σ H → RVs Z σ bs.H0 ρ s H rs xs → Qv.setVs is rs s = .ok () s1 → SimB bs Z ρ s1 (sets σ is xs) H
  | [], rs, xs, s, s1, σ, hz, m, k, e => by
    cases rs with
    | nil => cases e; exact m
    | cons _ _ => cases e
  | i :: is, rs, xs, s, s1, σ, hz, m, k, e => by
    cases rs with
    | nil => cases e
    | cons r rs =>
      cases xs with
      | nil => cases k.len
      | cons x xs =>
        have e : (Qv.setV i r s).bind (fun _ => Qv.setVs is rs) = .ok () s1 := e
        obtain ⟨h1, hn⟩ := k.at_ 0 r x rfl rfl
        cases e1 : Qv.setV i r s with
        | bad => rw [e1] at e; cases e
        | exc c s' => rw [e1] at e; cases e
        | ok u sa =>
          rw [e1] at e
          have ma := m.setV (H0 := H) (hz.imp id fun h z => h (by rw [z]; exact List.mem_cons_self)) h1 e1
          refine SimB.setVs (is := is) (hz.imp id fun h z => h (List.mem_cons_of_mem _ z)) ma ⟨Nat.succ.inj k.len, fun j r' y h2 h3 => ?_, fun j l w u a h2 h3 h4 h5 => Nat.succ.inj (k.dst (j + 1) (l + 1) w u a h2 h3 h4 h5)⟩ e
          obtain ⟨z1, z2⟩ := k.at_ (j + 1) r' y h2 h3
          refine ⟨?_, z2⟩
          cases r' with
          | fr v => exact z1
          | sl l => exact absurd rfl (z2 l)
          | own v =>
            obtain ⟨a, q1, q2, q3, q4, q5⟩ := z1
            refine ⟨a, q1, q2, fun q => ?_, q4, q5⟩
            cases r with
            | sl l => exact absurd rfl (hn l)
            | fr w =>
              cases e1
              exact q3 ((Tgx.setFr (i := i) m.sim h1).own a q)
            | own w =>
              cases e1
              obtain ⟨b, p1, p2, p3, p4, p5⟩ := h1
              subst p1
              obtain ⟨_, ow⟩ := Sim.setOwn (i := i) m.sim p2 p3
              rcases ow a q with z | z
              · subst z
                have := k.dst 0 (j + 1) w v a rfl h2 rfl (by rw [← q1]; exact h3)
                cases this
              · exact q3 z
theorem setVs_exc : ∀ (is : List Nat) (rs : List RV) (s : Sta) (c : Nat) (s' : Sta), Qv.setVs is rs s ≠ .exc c s'
  | [], [], s, c, s' => fun h => nomatch h
  | [], _ :: _, s, c, s' => fun h => nomatch h
  | _ :: _, [], s, c, s' => fun h => nomatch h
  | i :: is, r :: rs, s, c, s' => fun h => by
    have h : (setV i r s).bind (fun _ => Qv.setVs is rs) = .exc c s' := h
    cases e : setV i r s with
    | bad => rw [e] at h; cases h
    | exc c s'' =>
      cases r with
      | fr v => cases e
      | own v => cases e
      | sl j => unfold setV at e; dsimp only at e; split at e <;> cases e
    | ok u s1 => rw [e] at h; exact setVs_exc is rs s1 c s' h
theorem st_par_rd {is : List Nat} {as : E} {D : Ends} {σ : Sg} {H : Hp} (hz : bs.lp = none ∨ 0 ∉ is) (h : rdS bs Z W F (.asgP is as) D σ H) : rdV Z W F as σ H fun xs H1 => is.length = xs.length ∧ ∀ H2, Same H1 H2 → D.nx (sets σ is xs) H2 := by
  obtain ⟨ρ, s, m, h⟩ := h
  have h : SPst bs Z W ρ H ((dV F as s).bind fun rs s => (Qv.setVs is rs s).bind fun _ => pure .nx) D := h
  refine ⟨ρ, s, m.sim, SPst.expr m h fun ρ1 s1 H1 rs xs e n k q => ?_⟩
  have m1 := m.nxt n
  have k1 : RVs Z σ bs.H0 ρ1 s1 H1 rs xs := (rRVs Z σ).ant (fun b hb => m.none b hb) k
  cases e2 : Qv.setVs is rs s1 with
  | bad => rw [e2] at q; exact False.elim q
  | exc c s' => exact absurd e2 (setVs_exc is rs s1 c s')
  | ok u s2 =>
    rw [e2] at q
    refine ⟨?_, fun H2 sm => ?_⟩
    · rw [← k1.len]
      have : ∀ (is : List Nat) (rs : List RV) (s s' : Sta), Qv.setVs is rs s = .ok u s' → is.length = rs.length := by
        intro is
        induction is with
        | nil => intro rs s s' h; cases rs with
          | nil => rfl
          | cons _ _ => cases h
        | cons i is ih =>
          intro rs s s' h
          cases rs with
          | nil => cases h
          | cons r rs =>
            have h : (setV i r s).bind (fun _ => Qv.setVs is rs) = .ok u s' := h
            cases e : setV i r s with
            | bad => rw [e] at h; cases h
            | exc c s'' => rw [e] at h; cases h
            | ok _ s1 => rw [e] at h; exact congrArg (· + 1) (ih rs s1 s' h)
      exact this is rs s1 s2 e2
    · have m2 := SimB.setVs hz m1 k1 e2
      exact q ρ1 _ H2 (m2.nxt (Nxt.same m2.sim sm)) ((n.kp m.sim).trans (kp_same sm))
theorem st_par2 {i j : Nat} {x y : Str} {a b : Expr} {as : E} {px py pt pos : Pos} {kt k2 pt2} (h0 : bs.lp = none ∨ 0 ∉ [i, j]) (hc : X.calm = true) (hN : X.N.Nodup) (hi : X.N[i]? = some x) (hj : X.N[j]? = some y) (hij : i ≠ j)
    (hx : X.env.scope.names.lookup x = some .local) (hy : X.env.scope.names.lookup y = some .local) (ha : PA X [a, b] (rdV Z W F as))
    (hw : swappedStores [.Tuple [.Name x px, .Name y py] kt pt] (.Tuple [a, b] k2 pt2) X.env = pure (some [x, y])) (hs : swapsWithSole [.Tuple [.Name x px, .Name y py] kt pt] (.Tuple [a, b] k2 pt2) pos.line X.env = pure false) :
    PS X (.Assign [.Tuple [.Name x px, .Name y py] kt pt] (.Tuple [a, b] k2 pt2) pos) (rdS bs Z W F (.asgP [i, j] as)) := by
  refine (ps_par hc hN hi hj hij hx hy ha hw hs).impQ fun D σ H h => ?_
  obtain ⟨ρ, s, m, h⟩ := st_par_rd h0 h
  refine ⟨ρ, s, m, h.imp fun xs H1 q => ?_⟩
  obtain ⟨hl, q⟩ := q
  match xs, hl with
  | [v, w], _ => exact ⟨v, w, rfl, q H1 (.refl _)⟩
theorem st_par3 {i j l : Nat} {x y z : Str} {a b c : Expr} {as : E} {px py pz pt pos : Pos} {kt k2 pt2} (h0 : bs.lp = none ∨ 0 ∉ [i, j, l]) (hc : X.calm = true) (hN : X.N.Nodup) (hi : X.N[i]? = some x) (hj : X.N[j]? = some y) (hl : X.N[l]? = some z) (hij : i ≠ j) (hil : i ≠ l) (hjl : j ≠ l)
    (hx : X.env.scope.names.lookup x = some .local) (hy : X.env.scope.names.lookup y = some .local) (hz : X.env.scope.names.lookup z = some .local) (ha : PA X [a, b, c] (rdV Z W F as))
    (hw : swappedStores [.Tuple [.Name x px, .Name y py, .Name z pz] kt pt] (.Tuple [a, b, c] k2 pt2) X.env = pure (some [x, y, z])) (hs : swapsWithSole [.Tuple [.Name x px, .Name y py, .Name z pz] kt pt] (.Tuple [a, b, c] k2 pt2) pos.line X.env = pure false) :
    PS X (.Assign [.Tuple [.Name x px, .Name y py, .Name z pz] kt pt] (.Tuple [a, b, c] k2 pt2) pos) (rdS bs Z W F (.asgP [i, j, l] as)) := by
  refine (ps_par3 hc hN hi hj hl hij hil hjl hx hy hz ha hw hs).impQ fun D σ H h => ?_
  obtain ⟨ρ, s, m, h⟩ := st_par_rd h0 h
  refine ⟨ρ, s, m, h.imp fun xs H1 q => ?_⟩
  obtain ⟨hl, q⟩ := q
  match xs, hl with
  | [u, v, w], _ => exact ⟨u, v, w, rfl, q H1 (.refl _)⟩
/-- the names of a target, as they stand -/
def gsN (is : List Nat) : TGs := fun vs σ H Q => is.length = vs.length ∧ Q (sets σ is vs) H
theorem gsN_nil : PGs X [] (gsN []) := pgs_nil.impQ fun vs σ H Q h => by
  obtain ⟨h1, h2⟩ := h
  match vs, h1 with
  | [], _ => exact ⟨rfl, h2⟩
theorem gsN_cons {i : Nat} {is : List Nat} {x : Str} {p : Pos} {es : List Expr} (hN : X.N.Nodup) (hi : X.N[i]? = some x) (hx : Loc X.env.scope x) (hf : X.fn x = true ∨ X.env.scope.names.lookup x = some .local) (h : PGs X es (gsN is)) : PGs X (.Name x p :: es) (gsN (i :: is)) :=
  (pgs_cons (pg_name hN hi hx hf) h rfl).impQ fun vs σ H Q h => by
    obtain ⟨h1, h2⟩ := h
    match vs, h1 with
    | v :: vs, h1 => exact ⟨v, vs, rfl, Nat.succ.inj h1, h2⟩
/-- where some name is captured: the tuple is made, then unpacked -/
theorem st_parG {is : List Nat} {as : E} {ts es : List Expr} {k k2 : Nat} {pt pe pos : Pos} (h0 : bs.lp = none ∨ 0 ∉ is) (hc : X.calm = true) (hg : PGs X ts (gsN is)) (hl : ts.length = is.length) (hp : ts.all plainE = true) (ha : PA X es (rdV Z W F as)) (hz : is.length ≤ 1000)
    (hs : swapsWithSole [.Tuple ts k pt] (.Tuple es k2 pe) pos.line X.env = pure false) (hw : swappedStores [.Tuple ts k pt] (.Tuple es k2 pe) X.env = pure none) :
    PS X (.Assign [.Tuple ts k pt] (.Tuple es k2 pe) pos) (rdS bs Z W F (.asgP is as)) := by
  refine (ps_asg (pe_tup ha) (pg_tup hc hg (assignEach_len ts X.env) (assignEach_any hp)) hs hw rfl).impQ fun D σ H h => ?_
  obtain ⟨ρ, s, m, h⟩ := st_par_rd h0 h
  refine ⟨ρ, s, m, h.imp fun xs H1 q => ?_⟩
  obtain ⟨hl', q⟩ := q
  refine ⟨by rw [sizeLine_eq]; omega, fun p hp => ⟨p, xs, rfl, .inl (.inl upd_same), by omega, hl', q _ (same_upd hp)⟩⟩
end
end Qv
end
section
set_option Elab.async false
set_option linter.all false
set_option autoImplicit false
set_option maxRecDepth 100000
set_option maxHeartbeats 1000000
/-! Q13: raise, pop(0), a whole def. -/
namespace Qv
open PySem PySem.Spec PyProof.Rows L2
section
variable {bs : Bs} {Z : Nm} {W : WX} {F : FT} {X : Cx} {ρ : List Addr} {s s1 : Sta} {σ : Sg} {H : Hp}
/-- raise C("..") -/
theorem st_rais {c : Nat} {C : Addr} {x m : Str} {j : Nat} {p p2 pos pos2 : Pos} {bmB : List Value} {B newId initId : String} (hc : X.calm = true) (tk : L2N.Takes X W) (hC : C = Z.ca c) (EF : ExcBaseFacts B newId initId bmB) (q : PySem.W.excIn X.K C bmB newId = true) (gC : X.mg x = some (.ref C)) (kC : PySem.W.keepIn X.K (.ref C) = true) (r : Raises X (.ref C)) (hg : Gl X x)
    (hdb : (x == ("__debug__" : Str)) = false) : PS X (.Raise (some (.Call (.Name x p) [.Constant (.str m) j p2] [] pos)) none pos2) (rdS bs Z W F (.rais c)) := by
  refine (L2N.ps_raise hc tk (L2N.pmk_own EF q gC kC r hg hdb)).impQ fun D σ H h => ?_
  obtain ⟨ρ, s, m, h⟩ := h
  rw [hC]
  exact h ρ σ H m .refl
/-- x.pop(0) -/
theorem s_pop0 {i : Nat} {x : Str} {p1 p2 apos cpos : Pos} {j : Nat} (hN : X.N[i]? = some x) (hv : Vis X.env.scope x) (hd : (x == ("__debug__" : Str)) = false) (hcd : (x == ("__classdict__" : Str)) = false)
    (hline : (apos.endLine == cpos.line) = true) : PE X (.Call (.Attribute (.Name x p1) "pop" apos) [.Constant (.int 0) j p2] [] cpos) (rdE Z W F (.pop0 i)) := by
  have hp : plainE (.Constant (.int 0) j p2) = true := rfl
  have hfew : ((backTo cpos (starEach [.Constant (.int 0) j p2] X.env)).all (fun x => !x.1) && (backToKw cpos (keywordEach [] X.env)).all (fun x => x.1.isSome)
      && decide (([.Constant (.int 0) j p2] : List Expr).length + ([] : List Keyword).length + (if ([] : List Keyword).isEmpty then 0 else 1) < 30)) = true := by
    rw [star_cons hp]
    rfl
  refine (pe_bm PySem.F.plainAttrs_list PySem.F.slot_list_pop PySem.F.type_list_pop mt_popAt (pe_var (pos := p1) hN hv hd hcd) (pa_cons pe_int pa_nil (star_cons hp)) rfl hfew hline (star_cons hp) rfl).impQ fun σ H Q h => ?_
  obtain ⟨ρ, s, m, h⟩ := h
  have h : Pst Z W (rRV Z σ) ρ s σ H (match slotAt i s with
    | .own (.lst (x :: xs)) => .ok (.fr x) (s.put i (.own (.lst xs)))
    | _ => .bad) Q := h
  cases e0 : slotAt i s with
  | no => rw [e0] at h; exact False.elim h
  | fr v => rw [e0] at h; exact False.elim h
  | own v =>
    rw [e0] at h
    cases v with
    | lst l =>
      cases l with
      | nil => exact False.elim h
      | cons y ys =>
        have ei := slot_get e0 (fun z => nomatch z)
        obtain ⟨p, ep, ow⟩ := m.own i _ ei
        cases ow with
        | @lst _ _ vs hL rL =>
          cases rL with
          | @cons _ _ _ w ws r0 r1 =>
            refine ⟨_, ep, .inl ⟨rfl, _, .inl (.inl hL)⟩, ?_⟩
            refine ⟨p, w :: ws, 0, 0, w, rfl, rfl, hL, by decide, by decide, ?_, rfl, ?_⟩
            · simp [seqIndex?]
            · show Q w (upd H p (.lst ((w :: ws).eraseIdx 0)))
              have nx := Nxt.updOwn m ei ep (Ow.upd hL r1)
              exact h ρ _ w nx (r0.mono (nx.kp m))
    | _ => exact False.elim h
end
section
theorem rep_get {α : Type} {n i : Nat} {x y : α} (h : (List.replicate n x)[i]? = some y) : y = x := by
  rw [List.getElem?_replicate] at h
  split at h
  · exact (Option.some.inj h).symm
  · cases h
variable {Z : Nm} {ρ : List Addr} {H : Hp}
theorem start_get {N : List Str} {vs : List V} {i : Nat} {v : V} (h : vs[i]? = some v) : (L2.start N vs)[i]? = some (some v) := by
  unfold L2.start
  have hl : i < vs.length := (List.getElem?_eq_some_iff.mp h).1
  rw [List.getElem?_append_left (by rw [List.length_map]; exact hl), List.getElem?_map, h]
  rfl
/-- the names' places at a def's start -/
theorem sim_start {N : List Str} {d : Def} {as : List PV} {vs : List V} {lp : Option Addr} {obs : List Ob} (o : Obs Z ρ obs H) (a : Args Z ρ H d.lent as vs lp) (hn : N.length = d.ns) (hl : vs.length ≤ N.length) :
    SimB ⟨H, lp, ρ⟩ Z ρ ⟨slots0 d as, obs⟩ (L2.start N vs) H := by
  have frs : ∀ {as : List PV} {vs : List V} (k : Nat) (i : Nat) (w : Slot), Rps Z ρ H as vs → (as.map Slot.fr ++ List.replicate k Slot.no)[i]? = some w → w = .no ∨ ∃ v x, w = .fr v ∧ vs[i]? = some x ∧ Rp Z ρ H v x := by
    intro as vs k i w r q
    by_cases hi : i < as.length
    · rw [List.getElem?_append_left (by rw [List.length_map]; exact hi), List.getElem?_map] at q
      cases e : as[i]? with
      | none => rw [e] at q; cases q
      | some v =>
        rw [e] at q
        cases q
        obtain ⟨x, h1, h2⟩ := r.get e
        exact .inr ⟨v, x, rfl, h1, h2⟩
    · rw [List.getElem?_append_right (by rw [List.length_map]; omega)] at q
      exact .inl (rep_get q)
  have hlen : ∀ (m k : Nat), m ≤ k → (L2.start N vs).length = N.length := fun _ _ _ => by
    unfold L2.start
    rw [List.length_append, List.length_map, List.length_replicate]
    omega
  have hlN : (L2.start N vs).length = N.length := hlen 0 0 (Nat.le_refl _)
  generalize hl0 : d.lent = lt at a
  cases a with
  | @plain _ _ r =>
    have es : slots0 d as = as.map Slot.fr ++ List.replicate (d.ns - as.length) Slot.no := by
      unfold slots0
      rw [hl0]
    have hr := r.length
    have no : ∀ (i : Nat) (v : PV), (slots0 d as)[i]? ≠ some (.own v) := fun i v q => by
      rw [es] at q
      rcases frs _ i _ r q with z | ⟨_, _, z, _⟩ <;> cases z
    refine ⟨⟨?_, fun i v q => ?_, fun i v q => absurd q (no i v), fun i j v w b q => absurd q (no i v), o⟩, fun b o h _ _ _ => h, fun b ⟨i, v, q, _⟩ => absurd q (no i v), List.prefix_refl _, fun b h => .inl h, fun b h => (nomatch h), fun b ps h => ⟨ps, h⟩, fun p h => (nomatch h)⟩
    · show (slots0 d as).length = _
      rw [hlN, es, List.length_append, List.length_map, List.length_replicate]
      omega
    · have q : (slots0 d as)[i]? = some (.fr v) := q
      rw [es] at q
      rcases frs _ i _ r q with z | ⟨v', x, z, h1, h2⟩
      · cases z
      · cases z
        exact ⟨x, start_get h1, h2⟩
  | @lent a as p vs ow r =>
    have es : slots0 d (a :: as) = Slot.own a :: (as.map Slot.fr ++ List.replicate (d.ns - (as.length + 1)) Slot.no) := by
      unfold slots0
      rw [hl0]
      rfl
    have hr := r.length
    have hl : vs.length + 1 ≤ N.length := hl
    have at0 : (L2.start N (.ref p :: vs))[0]? = some (some (.ref p)) := start_get rfl
    have own0 : ∀ (i : Nat) (v : PV), (slots0 d (a :: as))[i]? = some (.own v) → i = 0 ∧ v = a := fun i v q => by
      rw [es] at q
      cases i with
      | zero => cases q; exact ⟨rfl, rfl⟩
      | succ i =>
        rw [List.getElem?_cons_succ] at q
        rcases frs _ i _ r q with z | ⟨_, _, z, _⟩ <;> cases z
    refine ⟨⟨?_, fun i v q => ?_, fun i v q => ?_, fun i j v w b q1 q2 _ _ => ?_, o⟩, fun b o h _ _ _ => h, fun b hb => ?_, List.prefix_refl _, fun b h => .inl h, fun b h => ?_, fun b ps h => ⟨ps, h⟩, fun q h => ?_⟩
    · show (slots0 d (a :: as)).length = _
      rw [hlN, es, List.length_cons, List.length_append, List.length_map, List.length_replicate]
      omega
    · have q : (slots0 d (a :: as))[i]? = some (.fr v) := q
      rw [es] at q
      cases i with
      | zero => cases q
      | succ i =>
        rw [List.getElem?_cons_succ] at q
        rcases frs _ i _ r q with z | ⟨v', x, z, h1, h2⟩
        · cases z
        · cases z
          exact ⟨x, start_get h1, h2⟩
    · obtain ⟨rfl, rfl⟩ := own0 i v q
      exact ⟨p, at0, ow⟩
    · rw [(own0 i v q1).1, (own0 j w q2).1]
    · obtain ⟨i, v, h1, h2⟩ := hb
      obtain ⟨rfl, _⟩ := own0 i v h1
      rw [at0] at h2
      cases h2
      exact .inl rfl
    · cases h
      obtain ⟨us, e⟩ := ow.get
      rw [e]
      exact fun z => nomatch z
    · cases h
      exact at0
end
section
variable {Z : Nm} {W : WX} {ρ ρ' : List Addr} {s : Sta} {σ : Sg} {H H' : Hp} {lp : Option Addr}
theorem out_none {d : Def} (hl : (lp = none) ↔ d.lent = false) (m : SimB ⟨H, lp, ρ⟩ Z ρ' s σ H') {out : PV} (e : outOf d s = some out) : CNxt Z lp ρ H ρ' s.obs out H' := by
  refine ⟨m.sim.obs, m.pre, m.new, m.fr, m.tb, fun p hp => ?_⟩
  have z0 := m.z0 p hp
  unfold outOf at e
  cases h : d.lent with
  | false => rw [hl.mpr h] at hp; cases hp
  | true =>
    rw [h] at e
    rw [if_pos rfl] at e
    cases e0 : slotAt 0 s with
    | no => rw [e0] at e; cases e
    | fr v => rw [e0] at e; cases e
    | own v =>
      rw [e0] at e
      cases e
      obtain ⟨a, h1, h2⟩ := m.sim.own 0 out (slot_get e0 (fun z => nomatch z))
      rw [z0] at h1
      cases h1
      exact h2
theorem cpst_end {d : Def} {r : R Fl} {Q : VK} {E : XK} (hl : (lp = none) ↔ d.lent = false) (h : CPst Z lp ρ H (endC d r) Q E) :
    SPst ⟨H, lp, ρ⟩ Z (fun cls dd _ H => E cls dd H) ρ H r { nx := fun _ H' => Q .non H', rt := Q } := by
  cases r with
  | bad => exact h
  | exc c s' =>
    have h : CPst Z lp ρ H (if d.lent then .bad else .exc c s'.obs) Q E := h
    cases e : d.lent with
    | true => rw [e] at h; exact False.elim h
    | false =>
      rw [e] at h
      intro ρ' σ' H' m _
      refine h ρ' H' .non ⟨m.sim.obs, m.pre, m.new, m.fr, m.tb, fun p hp => ?_⟩
      rw [hl.mpr e] at hp
      cases hp
  | ok f s' =>
    cases f with
    | nx =>
      have h : CPst Z lp ρ H (match outOf d s' with | some o => .ok .non false o s'.obs | none => .bad) Q E := h
      cases e : outOf d s' with
      | none => rw [e] at h; exact False.elim h
      | some o =>
        rw [e] at h
        intro ρ' σ' H' m _
        exact h ρ' H' .non (out_none hl m e) .non
    | ret r =>
      cases r with
      | fr v =>
        have h : CPst Z lp ρ H (match outOf d s' with | some o => .ok v false o s'.obs | none => .bad) Q E := h
        cases e : outOf d s' with
        | none => rw [e] at h; exact False.elim h
        | some o =>
          rw [e] at h
          intro ρ' σ' H' x m _ k
          exact h ρ' H' x (out_none hl m e) k
      | own v =>
        have h : CPst Z lp ρ H (match outOf d s' with | some o => .ok v true o s'.obs | none => .bad) Q E := h
        cases e : outOf d s' with
        | none => rw [e] at h; exact False.elim h
        | some o =>
          rw [e] at h
          intro ρ' σ' H' x m _ k
          obtain ⟨a, h1, h2, h3, h4, h5⟩ := k
          exact h ρ' H' x (out_none hl m e) ⟨a, h1, h2, h4, h5⟩
      | sl i =>
        have h : CPst Z lp ρ H (if d.lent && i == 0 then .bad else match slotAt i s', outOf d s' with
          | .own v, some o => .ok v true o s'.obs
          | .fr v, some o => .ok v false o s'.obs
          | _, _ => .bad) Q E := h
        cases hb : (d.lent && i == 0) with
        | true => rw [hb] at h; exact False.elim h
        | false =>
          rw [hb] at h
          have h : CPst Z lp ρ H (match slotAt i s', outOf d s' with
            | .own v, some o => .ok v true o s'.obs
            | .fr v, some o => .ok v false o s'.obs
            | _, _ => .bad) Q E := h
          cases e : outOf d s' with
          | none => rw [e] at h; cases e0 : slotAt i s' <;> (rw [e0] at h; exact False.elim h)
          | some o =>
            rw [e] at h
            intro ρ' σ' H' x m _ k
            have k : σ'[i]? = some (some x) := k
            cases e0 : slotAt i s' with
            | no => rw [e0] at h; exact False.elim h
            | fr v =>
              rw [e0] at h
              obtain ⟨y, h1, h2⟩ := m.sim.fr i v (slot_get e0 (fun z => nomatch z))
              rw [k] at h1
              cases h1
              exact h ρ' H' x (out_none hl m e) h2
            | own v =>
              rw [e0] at h
              have ei := slot_get e0 (fun z => nomatch z)
              obtain ⟨a, h1, h2⟩ := m.sim.own i v ei
              rw [k] at h1
              cases h1
              refine h ρ' H' (.ref a) (out_none hl m e) ⟨a, rfl, h2, fun z => ?_, ?_⟩
              · obtain ⟨C, dx, fs, q⟩ := m.sim.obs.at' z
                obtain ⟨us, q2⟩ := h2.get
                exact lst_ins q2 q
              · rcases m.own a ⟨i, v, ei, k⟩ with z | z
                · exfalso
                  have z : lp = some a := z
                  have z0 := m.z0 a z
                  have hl1 : d.lent = true := by
                    cases q : d.lent with
                    | true => rfl
                    | false => rw [hl.mpr q] at z; cases z
                  have hi : i ≠ 0 := fun q => by rw [hl1, q] at hb; cases hb
                  cases e1 : slotAt 0 s' with
                  | no => unfold outOf at e; rw [hl1, if_pos rfl, e1] at e; cases e
                  | fr w => unfold outOf at e; rw [hl1, if_pos rfl, e1] at e; cases e
                  | own w => exact hi (m.sim.dis i 0 v w a ei (slot_get e1 (fun z => nomatch z)) k z0)
                · exact z
end
theorem args_lp {Z : Nm} {ρ : List Addr} {H : Hp} {lt : Bool} {as : List PV} {vs : List V} {lp : Option Addr} (a : Args Z ρ H lt as vs lp) : ((lp = none) ↔ lt = false) ∧ as.length = vs.length := by
  cases a with
  | plain r => exact ⟨⟨fun _ => rfl, fun _ => rfl⟩, r.length⟩
  | lent o r => exact ⟨⟨fun h => (nomatch h), fun h => (nomatch h)⟩, congrArg (· + 1) r.length⟩
/-- a def by its body -/
theorem def_ok {P : Program} {w : World} {K : PySem.W.Frag} {mg : Str → Option Value} {base : Heap} {Z : Nm} {D : Nat → Option Def} {n f k : Nat} {d : Def} {x qual : Str} {st : Stmt} {A : Addr} {fd : FuncData} {N ps : List Str}
    (hD : D f = some d) (Fu : Fun K x qual st A fd) (S : FnScope N ps (defScope st)) (hps : ps.length = d.np) (hN : N.length = d.ns)
    (hb : ∀ (bs : Bs) (cdv : Value) (B : Around) (outer : List Env) (s : Shared) (H : Hp) (E : XK), (bs.lp = none ↔ d.lent = false) → fd.code = cdv → Room k (B.deeper (envOfC qual (defScope st) s.heap.objs.size A cdv)) →
      PSs (cxOf (L2N.CX P w) P w K mg base N qual (defScope st) A cdv B outer s H E) (defBody st) (rdS bs Z (fun cls dd _ H => E cls dd H) (callF D n) d.body)) :
    FnOk P w K mg base (L2N.CX P w) (k + 1) A fd ps (spF Z d.lent (callF D (n + 1) f) d.np) := by
  obtain ⟨oc, od, kV, doc, pm, an, cdv, ct, osl, rfl, lk, hcd⟩ := Fu.ex
  refine fn_of lk hcd S (fun vs H Q E h => by rw [hps]; exact h.1) fun B outer s H vs Q E hr h => ?_
  obtain ⟨hv, ρ, as, obs, lp, o, a, h⟩ := h
  obtain ⟨hl, hal⟩ := args_lp a
  refine ⟨_, hb ⟨H, lp, ρ⟩ cdv B outer s H E hl rfl hr, ρ, ⟨slots0 d as, obs⟩, ?_, ?_⟩
  · refine sim_start o a hN ?_
    have := congrArg List.length S.pre
    rw [List.length_take] at this
    omega
  · refine cpst_end hl ?_
    have e : callF D (n + 1) f as obs = endC d (dS (callF D n) d.body ⟨slots0 d as, obs⟩) := by
      show (match D f with | none => CR.bad | some d => if as.length = d.np then endC d (dS (callF D n) d.body ⟨slots0 d as, obs⟩) else .bad) = _
      rw [hD]
      exact if_pos (by omega)
    rw [e] at h
    exact h
end Qv
end
section
set_option Elab.async false
set_option linter.all false
set_option autoImplicit false
set_option maxRecDepth 100000
set_option maxHeartbeats 1000000
/-! Q14: closures: captured cells are held still while what captured them is called. -/
namespace Qv
open PySem PySem.Spec PyProof.Rows L2

/-- the objects at these places are held still -/
def hold (H : Hp) (cs : List Addr) (h : Heap) : Hp := fun b => if b ∈ cs then (match h.get? b with
  | some o => some (.frz o (.own 0))
  | none => none) else H b
def unhold (H : Hp) (cs : List Addr) : Hp := fun b => if b ∈ cs then none else H b
section
variable {P : Program} {w : World} {H H' : Hp} {cs : List Addr} {h h' B : Heap} {b : Addr} {fs : List Addr}
theorem hold_out (hb : b ∉ cs) : hold H cs h b = H b := if_neg hb
theorem hold_in {o : Obj} (hb : b ∈ cs) (e : h.get? b = some o) : hold H cs h b = some (.frz o (.own 0)) := by
  unfold hold
  rw [if_pos hb, e]
theorem unhold_out (hb : b ∉ cs) : unhold H cs b = H b := if_neg hb
theorem unhold_in (hb : b ∈ cs) : unhold H cs b = none := if_pos hb
/-- cells of nobody's -/
structure Free (H : Hp) (cs : List Addr) (h : Heap) (fs : List Addr) : Prop where
  at_ : ∀ b ∈ cs, ∃ o v, h.get? b = some o ∧ o.data = .cell v
  no : ∀ b ∈ cs, H b = none
  fs : ∀ b ∈ cs, b ∉ fs
theorem Free.ne {o : HO} (F : Free H cs h fs) (e : H b = some o) : b ∉ cs := fun z => by
  rw [F.no b z] at e
  cases e
theorem Free.hok (F : Free H cs h fs) (hok : HOk P w H h) : HOk P w (hold H cs h) h := fun b u q => by
  by_cases hb : b ∈ cs
  · obtain ⟨o, v, e, _⟩ := F.at_ b hb
    rw [hold_in hb e] at q
    cases q
    exact ⟨e, o, e⟩
  · rw [hold_out hb] at q
    refine (hok b u q).stay (fun c v _ q => q) (fun c q => ?_) fun c xs q => ?_
    · rw [hold_out (F.ne q)]; exact q
    · rw [hold_out (F.ne q)]; exact q
theorem hok_un (hcs : ∀ b ∈ cs, ∃ o, H b = some (.frz o (.own 0)) ∨ H b = none) (hok : HOk P w H h) : HOk P w (unhold H cs) h := fun b u q => by
  have ne : ∀ {b : Addr} {o : HO}, H b = some o → (∀ o', o ≠ .frz o' (.own 0)) → b ∉ cs := fun {b o} e n z => by
    obtain ⟨o', e' | e'⟩ := hcs b z
    · rw [e] at e'; exact n o' (Option.some.inj e')
    · rw [e] at e'; cases e'
  by_cases hb : b ∈ cs
  · rw [unhold_in hb] at q; cases q
  · rw [unhold_out hb] at q
    refine (hok b u q).stay (fun c v _ q => q) (fun c q => ?_) fun c xs q => ?_
    · rw [unhold_out (ne q (fun _ z => nomatch z))]; exact q
    · rw [unhold_out (ne q (fun _ z => nomatch z))]; exact q
/-- behind a call that was made while the cells were held -/
theorem Free.un (F : Free H cs h fs) (u : Un fs [] (hold H cs h) H' h h') (hok : HOk P w H' h') : Un fs [] H (unhold H' cs) h h' ∧ HOk P w (unhold H' cs) h' := by
  have held : ∀ b ∈ cs, ∃ o, h.get? b = some o ∧ H' b = some (.frz o (.own 0)) ∧ h'.get? b = some o := fun b hb => by
    obtain ⟨o, v, e, _⟩ := F.at_ b hb
    have e1 := u.frzs b o _ (hold_in hb e)
    exact ⟨o, e, e1, (hok b _ e1).1⟩
  refine ⟨⟨fun b o q n hb hx => ?_, fun b o q n hb hx => ?_, fun b o q n hx => ?_, fun b o q hx => u.there b o q hx, fun b xs q => ?_, fun b o v q => ?_, fun b ps q => ?_⟩, hok_un (fun b hb => let ⟨o, _, e, _⟩ := held b hb; ⟨o, .inl e⟩) hok⟩
  · by_cases hc : b ∈ cs
    · obtain ⟨o', e1, _, e2⟩ := held b hc
      rw [q] at e1
      cases e1
      exact e2
    · exact u.keep b o q ((hold_out hc).trans n) hb hx
  · by_cases hc : b ∈ cs
    · exact absurd hb (F.fs b hc)
    · exact u.slot b o q ((hold_out hc).trans n) hb hx
  · by_cases hc : b ∈ cs
    · exact unhold_in hc
    · rw [unhold_out hc]
      exact u.free b o q ((hold_out hc).trans n) hx
  · have hc := F.ne q
    rw [unhold_out hc]
    exact u.tups b xs ((hold_out hc).trans q)
  · have hc := F.ne q
    rw [unhold_out hc]
    exact u.frzs b o v ((hold_out hc).trans q)
  · have hc := F.ne q
    rw [unhold_out hc]
    exact u.tbls b ps ((hold_out hc).trans q)
theorem Free.ce {outer : List Env} {s s' : Shared} {Q : VK} {u : Value} (F : Free H cs s.heap (frs outer)) (c : CE outer P w (hold H cs s.heap) s (fun v H' => Q v (unhold H' cs)) u s') : CE outer P w H s Q u s' := by
  obtain ⟨v, H', os, bare, un, hok, r, q⟩ := c
  obtain ⟨un', hok'⟩ := F.un un hok
  exact ⟨v, _, os, bare, un', hok', r, q⟩
theorem Free.cx {outer : List Env} {s s' : Shared} {E : XK} {u : Value} (F : Free H cs s.heap (frs outer)) (c : L2N.CX P w outer (hold H cs s.heap) s (fun cls d H' => E cls d (unhold H' cs)) u s') : L2N.CX P w outer H s E u s' := by
  obtain ⟨a, B, H', cls, d, rfl, fl, hok, ub, na, os, ag, hE⟩ := c
  have held : ∀ b ∈ cs, ∃ o, s.heap.get? b = some o ∧ H' b = some (.frz o (.own 0)) ∧ B.get? b = some o := fun b hb => by
    obtain ⟨o, v, e, _⟩ := F.at_ b hb
    have e1 := ub.frzs b o _ (hold_in hb e)
    exact ⟨o, e, e1, (hok b _ e1).1⟩
  refine ⟨a, B, unhold H' cs, cls, d, rfl, fl, hok_un (fun b hb => let ⟨o, _, e, _⟩ := held b hb; ⟨o, .inl e⟩) hok, ⟨fun b o q n hb => ?_, ub.slot, fun b o q n => ?_, ub.there, fun b xs q => ?_, fun b o v q => ?_, fun b ps q => ?_⟩, ?_, os, ag, hE⟩
  · by_cases hc : b ∈ cs
    · obtain ⟨o', e1, _, e2⟩ := held b hc
      rw [q] at e1
      cases e1
      exact e2
    · exact ub.keep b o q ((hold_out hc).trans n) hb
  · by_cases hc : b ∈ cs
    · exact unhold_in hc
    · rw [unhold_out hc]
      exact ub.free b o q ((hold_out hc).trans n)
  · have hc := F.ne q
    rw [unhold_out hc]
    exact ub.tups b xs ((hold_out hc).trans q)
  · have hc := F.ne q
    rw [unhold_out hc]
    exact ub.frzs b o v ((hold_out hc).trans q)
  · have hc := F.ne q
    rw [unhold_out hc]
    exact ub.tbls b ps ((hold_out hc).trans q)
  · by_cases hc : a ∈ cs
    · exact unhold_in hc
    · rw [unhold_out hc]; exact na
/-- the other way: the cells were let go for a while -/
theorem Held.ce {outer : List Env} {s s' : Shared} {Q : VK} {u : Value} (hh : ∀ b ∈ cs, ∃ o, H b = some (.frz o (.own 0)) ∧ s.heap.get? b = some o ∧ b ∉ frs outer)
    (c : CE outer P w (unhold H cs) s (fun v H' => (∀ b ∈ cs, H' b = none) → Q v (hold H' cs s.heap)) u s') : CE outer P w H s Q u s' := by
  obtain ⟨v, H', os, bare, un, hok, r, q⟩ := c
  have no : ∀ b ∈ cs, H' b = none := fun b hb => by
    obtain ⟨o, _, e, _⟩ := hh b hb
    exact un.free b o e (unhold_in hb) (by simp)
  have at' : ∀ b ∈ cs, ∃ o, H b = some (.frz o (.own 0)) ∧ s.heap.get? b = some o ∧ hold H' cs s.heap b = some (.frz o (.own 0)) ∧ s'.heap.get? b = some o := fun b hb => by
    obtain ⟨o, e0, e, nf⟩ := hh b hb
    exact ⟨o, e0, e, hold_in hb e, un.keep b o e (unhold_in hb) nf (by simp)⟩
  have ne : ∀ {b : Addr} {o : HO}, H' b = some o → b ∉ cs := fun {b o} e z => by
    rw [no b z] at e; cases e
  have nc : ∀ {b : Addr} {o : HO}, H b = some o → (∀ o', o ≠ .frz o' (.own 0)) → b ∉ cs := fun {b o} e n z => by
    obtain ⟨o', e', _⟩ := hh b z
    rw [e] at e'
    exact n o' (Option.some.inj e')
  refine ⟨v, hold H' cs s.heap, os, bare, ⟨fun b o q n hb hx => ?_, fun b o q n hb hx => ?_, fun b o q n hx => ?_, un.there, fun b xs q => ?_, fun b o v q => ?_, fun b ps q => ?_⟩, fun b u q => ?_, r, q no⟩
  · have hc : b ∉ cs := fun z => by obtain ⟨o', e', _⟩ := hh b z; rw [n] at e'; cases e'
    exact un.keep b o q ((unhold_out hc).trans n) hb hx
  · have hc : b ∉ cs := fun z => by obtain ⟨o', e', _⟩ := hh b z; rw [n] at e'; cases e'
    exact un.slot b o q ((unhold_out hc).trans n) hb hx
  · have hc : b ∉ cs := fun z => by obtain ⟨o', e', _⟩ := hh b z; rw [n] at e'; cases e'
    rw [hold_out hc]
    exact un.free b o q ((unhold_out hc).trans n) hx
  · have hc := nc q (fun _ z => nomatch z)
    rw [hold_out hc]
    exact un.tups b xs ((unhold_out hc).trans q)
  · by_cases hc : b ∈ cs
    · obtain ⟨o', e1, _, e2, _⟩ := at' b hc
      rw [q] at e1
      cases e1
      exact e2
    · rw [hold_out hc]
      exact un.frzs b o v ((unhold_out hc).trans q)
  · have hc := nc q (fun _ z => nomatch z)
    rw [hold_out hc]
    exact un.tbls b ps ((unhold_out hc).trans q)
  · by_cases hc : b ∈ cs
    · obtain ⟨o, _, _, e2, e3⟩ := at' b hc
      rw [e2] at q
      cases q
      exact ⟨e3, o, e3⟩
    · rw [hold_out hc] at q
      refine (hok b u q).stay (fun c v _ q => q) (fun c q => ?_) fun c xs q => ?_
      · rw [hold_out (ne q)]; exact q
      · rw [hold_out (ne q)]; exact q
theorem Held.cx {outer : List Env} {s s' : Shared} {E : XK} {u : Value} (hh : ∀ b ∈ cs, ∃ o, H b = some (.frz o (.own 0)) ∧ s.heap.get? b = some o ∧ b ∉ frs outer)
    (c : L2N.CX P w outer (unhold H cs) s (fun cls d H' => (∀ b ∈ cs, H' b = none) → E cls d (hold H' cs s.heap)) u s') : L2N.CX P w outer H s E u s' := by
  obtain ⟨a, B, H', cls, d, rfl, fl, hok, ub, na, os, ag, hE⟩ := c
  have no : ∀ b ∈ cs, H' b = none := fun b hb => by
    obtain ⟨o, _, e, _⟩ := hh b hb
    exact ub.free b o e (unhold_in hb)
  have at' : ∀ b ∈ cs, ∃ o, H b = some (.frz o (.own 0)) ∧ s.heap.get? b = some o ∧ hold H' cs s.heap b = some (.frz o (.own 0)) ∧ B.get? b = some o := fun b hb => by
    obtain ⟨o, e0, e, nf⟩ := hh b hb
    exact ⟨o, e0, e, hold_in hb e, ub.keep b o e (unhold_in hb) nf⟩
  have ne : ∀ {b : Addr} {o : HO}, H' b = some o → b ∉ cs := fun {b o} e z => by
    rw [no b z] at e; cases e
  have nc : ∀ {b : Addr} {o : HO}, H b = some o → (∀ o', o ≠ .frz o' (.own 0)) → b ∉ cs := fun {b o} e n z => by
    obtain ⟨o', e', _⟩ := hh b z
    rw [e] at e'
    exact n o' (Option.some.inj e')
  have na' : hold H' cs s.heap a = none := by
    by_cases hc : a ∈ cs
    · obtain ⟨o, _, _, _, e⟩ := at' a hc
      have z : B.get? a = none := fl.2.1
      rw [e] at z
      cases z
    · rw [hold_out hc]; exact na
  refine ⟨a, B, hold H' cs s.heap, cls, d, rfl, fl, fun b u q => ?_, ⟨fun b o q n hb => ?_, ub.slot, fun b o q n => ?_, ub.there, fun b xs q => ?_, fun b o v q => ?_, fun b ps q => ?_⟩, na', os, ag, hE no⟩
  · by_cases hc : b ∈ cs
    · obtain ⟨o, _, _, e2, e3⟩ := at' b hc
      rw [e2] at q
      cases q
      exact ⟨e3, o, e3⟩
    · rw [hold_out hc] at q
      refine (hok b u q).stay (fun c v _ q => q) (fun c q => ?_) fun c xs q => ?_
      · rw [hold_out (ne q)]; exact q
      · rw [hold_out (ne q)]; exact q
  · have hc : b ∉ cs := fun z => by obtain ⟨o', e', _⟩ := hh b z; rw [n] at e'; cases e'
    exact ub.keep b o q ((unhold_out hc).trans n) hb
  · have hc : b ∉ cs := fun z => by obtain ⟨o', e', _⟩ := hh b z; rw [n] at e'; cases e'
    rw [hold_out hc]
    exact ub.free b o q ((unhold_out hc).trans n)
  · have hc := nc q (fun _ z => nomatch z)
    rw [hold_out hc]
    exact ub.tups b xs ((unhold_out hc).trans q)
  · by_cases hc : b ∈ cs
    · obtain ⟨o', e1, _, e2, _⟩ := at' b hc
      rw [q] at e1
      cases e1
      exact e2
    · rw [hold_out hc]
      exact ub.frzs b o v ((unhold_out hc).trans q)
  · have hc := nc q (fun _ z => nomatch z)
    rw [hold_out hc]
    exact ub.tbls b ps ((unhold_out hc).trans q)
end
end Qv
end
section
set_option Elab.async false
set_option linter.all false
set_option autoImplicit false
set_option maxRecDepth 100000
set_option maxHeartbeats 1000000
/-! Q15: what is related while cells are held. -/
namespace Qv
open PySem PySem.Spec PyProof.Rows L2
section
variable {Z : Nm} {ρ ρ' : List Addr} {H H' : Hp} {cs : List Addr} {h : Heap} {fs : List Addr} {obl : List Ob}
theorem Rfs.dataM (h1 : ∀ a vs, H a = some (.tup vs) → H' a = some (.tup vs)) (h2 : ∀ a o vs, H a = some (.frz o (.lst vs)) → H' a = some (.frz o (.lst vs))) : ∀ {x : List (Str × PV)} {v : List (Str × V)}, x.all (·.2.data) = true → Rfs Z ρ H x v → Rfs Z ρ H' x v
  | _, _, _, .nil => .nil
  | _, _, d, .cons h r => by
    rw [List.all_cons, Bool.and_eq_true] at d
    exact .cons (Rp.dataM d.1 h1 h2 h) (Rfs.dataM h1 h2 d.2 r)
theorem Free.kp (F : Free H cs h fs) : Kp ρ H ρ (hold H cs h) :=
  ⟨fun a vs q => (hold_out (F.ne q)).trans q, fun a o u q => (hold_out (F.ne q)).trans q, List.prefix_refl _⟩
theorem Free.obs (F : Free H cs h fs) (o : Obs Z ρ obl H) : Obs Z ρ obl (hold H cs h) := by
  refine ⟨o.len, o.nd, fun n ob b q1 q2 => ?_, fun p hp => (o.tab p hp).keep fun b u q _ => (hold_out (F.ne q)).trans q⟩
  obtain ⟨dx, fs, e1, e2, e3⟩ := o.at_ n ob b q1 q2
  exact ⟨dx, fs, (hold_out (F.ne e1)).trans e1, e2.mono F.kp, e3⟩
/-- the cells, held -/
def CellsH (H : Hp) (cs : List Addr) : Prop := ∀ b ∈ cs, ∃ o v, H b = some (.frz o (.own 0)) ∧ o.data = .cell v
theorem CellsH.tup (c : CellsH H cs) (a : Addr) (vs : List V) (e : H a = some (.tup vs)) : unhold H cs a = some (.tup vs) := by
  rw [unhold_out fun z => ?_]
  · exact e
  · obtain ⟨o, v, q, _⟩ := c a z
    rw [e] at q; cases q
theorem CellsH.lst (c : CellsH H cs) (a : Addr) (o : Obj) (vs : List V) (e : H a = some (.frz o (.lst vs))) : unhold H cs a = some (.frz o (.lst vs)) := by
  rw [unhold_out fun z => ?_]
  · exact e
  · obtain ⟨o, v, q, _⟩ := c a z
    rw [e] at q; cases q
theorem CellsH.obs (c : CellsH H cs) (o : Obs Z ρ obl H) : Obs Z ρ obl (unhold H cs) := by
  refine ⟨o.len, o.nd, fun n ob b q1 q2 => ?_, fun p hp => ?_⟩
  · obtain ⟨dx, fs, e1, e2, e3⟩ := o.at_ n ob b q1 q2
    refine ⟨dx, fs, ?_, e2.dataM c.tup c.lst e3, e3⟩
    rw [unhold_out fun z => ?_]
    · exact e1
    · obtain ⟨o, v, q, _⟩ := c b z
      rw [e1] at q; cases q
  · obtain ⟨ps, h1, h2, h3⟩ := o.tab p hp
    refine ⟨ps, ?_, h2, fun pos cv hc => ?_⟩
    · rw [unhold_out fun z => ?_]
      · exact h1
      · obtain ⟨o, v, q, _⟩ := c _ z
        rw [h1] at q; cases q
    · obtain ⟨cc, oc, cvs, t, e1, e2, e3, e4⟩ := h3 pos cv hc
      refine ⟨cc, oc, cvs, t, e1, ?_, e3, e4⟩
      rw [unhold_out fun z => ?_]
      · exact e2
      · obtain ⟨o, v, q, d⟩ := c cc z
        rw [e2] at q
        cases q
        rw [e3] at d
        cases d
theorem Obs.out (o : Obs Z ρ obl H) {b : Addr} (e : H b = none) : b ∉ ρ := fun z => by
  obtain ⟨C, dx, fs, q⟩ := o.at' z
  rw [e] at q
  cases q
theorem CNxt.unh {obs' : List Ob} {out : PV} (F : Free H cs h fs) (o : Obs Z ρ obl H) (n : CNxt Z none ρ (hold H cs h) ρ' obs' out H') : CellsH H' cs ∧ CNxt Z none ρ H ρ' obs' out (unhold H' cs) := by
  have ch : CellsH H' cs := fun b hb => by
    obtain ⟨ob, v, e, d⟩ := F.at_ b hb
    exact ⟨ob, v, n.fr b _ (hold_in hb e) (fun z => nomatch z) (o.out (F.no b hb)) (fun _ z => nomatch z), d⟩
  refine ⟨ch, ch.obs n.obs, n.pre, fun a ha => ?_, fun b u e h1 h2 h3 => ?_, fun b ps e => ?_, fun p z => (nomatch z)⟩
  · rcases n.new a ha with z | z
    · exact .inl z
    · refine .inr ?_
      by_cases hc : a ∈ cs
      · exact F.no a hc
      · exact (hold_out hc).symm.trans z
  · have hc := F.ne e
    rw [unhold_out hc]
    exact n.fr b u ((hold_out hc).trans e) h1 h2 h3
  · have hc := F.ne e
    rw [unhold_out hc]
    exact n.tb b ps ((hold_out hc).trans e)
/-- a call made while cells are held, told to the caller -/
theorem CPst.un {r : CR} {Q : VK} {E : XK} (F : Free H cs h fs) (o : Obs Z ρ obl H) (c : CPst Z none ρ H r.keep Q E) : CPst Z none ρ (hold H cs h) r (fun x H' => Q x (unhold H' cs)) (fun cls d H' => E cls d (unhold H' cs)) := by
  cases r with
  | bad => exact c
  | exc k obs' => exact fun ρ' H' out n => c ρ' _ out (CNxt.unh F o n).2
  | ok v own out obs' =>
    have c : CPst Z none ρ H (if v.data then .ok v own out obs' else .bad) Q E := c
    cases hd : v.data with
    | false => rw [hd] at c; exact False.elim c
    | true =>
      rw [hd] at c
      have c : CPst Z none ρ H (.ok v own out obs') Q E := c
      intro ρ' H' x n r
      obtain ⟨ch, n'⟩ := CNxt.unh F o n
      refine c ρ' _ x n' ?_
      cases own with
      | false => exact Rp.dataM hd ch.tup ch.lst r
      | true =>
        obtain ⟨a, h1, h2, h3, h4⟩ := r
        have hc : a ∉ cs := fun z => by
          obtain ⟨ob, w, e, _⟩ := ch a z
          obtain ⟨us, q⟩ := h2.get
          rw [e] at q; cases q
        refine ⟨a, h1, ?_, h3, (hold_out hc).symm.trans h4⟩
        cases h2 with
        | @lst _ xs vs e r =>
          refine .lst ((unhold_out hc).trans e) (Rps.dataM ?_ ch.tup ch.lst r)
          simpa [PV.data] using hd
/-- the other way: a closure's body runs, its cells let go -/
theorem CNxt.reh {obs' : List Ob} {out : PV} {hp : Heap} (ch : CellsH H cs) (hg : ∀ b ∈ cs, ∃ o, H b = some (.frz o (.own 0)) ∧ hp.get? b = some o) (no : ∀ b ∈ cs, H' b = none) (n : CNxt Z none ρ (unhold H cs) ρ' obs' out H') :
    CNxt Z none ρ H ρ' obs' out (hold H' cs hp) ∧ Kp ρ' H' ρ' (hold H' cs hp) := by
  have ne : ∀ {b : Addr} {o : HO}, H' b = some o → b ∉ cs := fun {b o} e z => by
    rw [no b z] at e; cases e
  have kp : Kp ρ' H' ρ' (hold H' cs hp) := ⟨fun a vs q => (hold_out (ne q)).trans q, fun a o u q => (hold_out (ne q)).trans q, List.prefix_refl _⟩
  have nc : ∀ {b : Addr} {o : HO}, H b = some o → (∀ o', o ≠ .frz o' (.own 0)) → b ∉ cs := fun {b o} e n z => by
    obtain ⟨o', e', _⟩ := hg b z
    rw [e] at e'
    exact n o' (Option.some.inj e')
  refine ⟨⟨⟨n.obs.len, n.obs.nd, fun k ob b q1 q2 => ?_, fun p hp => (n.obs.tab p hp).keep fun b u q _ => (hold_out (ne q)).trans q⟩, n.pre, fun a ha => ?_, fun b u e h1 h2 h3 => ?_, fun b ps e => ?_, fun p z => (nomatch z)⟩, kp⟩
  · obtain ⟨dx, fs, e1, e2, e3⟩ := n.obs.at_ k ob b q1 q2
    exact ⟨dx, fs, (hold_out (ne e1)).trans e1, e2.mono kp, e3⟩
  · rcases n.new a ha with z | z
    · exact .inl z
    · refine .inr ?_
      by_cases hc : a ∈ cs
      · exfalso
        obtain ⟨C, dx, fs, q⟩ := n.obs.at' ha
        exact ne q hc
      · exact (unhold_out hc).symm.trans z
  · by_cases hc : b ∈ cs
    · obtain ⟨o, e1, e2⟩ := hg b hc
      rw [e] at e1
      cases e1
      exact hold_in hc e2
    · rw [hold_out hc]
      exact n.fr b u ((unhold_out hc).trans e) h1 h2 h3
  · have hc := nc e (fun _ z => nomatch z)
    rw [hold_out hc]
    exact n.tb b ps ((unhold_out hc).trans e)
theorem CPst.letgo {r : CR} {Q : VK} {E : XK} {hp : Heap} (ch : CellsH H cs) (hg : ∀ b ∈ cs, ∃ o, H b = some (.frz o (.own 0)) ∧ hp.get? b = some o) (c : CPst Z none ρ H r Q E) :
    CPst Z none ρ (unhold H cs) r (fun x H' => (∀ b ∈ cs, H' b = none) → Q x (hold H' cs hp)) (fun cls d H' => (∀ b ∈ cs, H' b = none) → E cls d (hold H' cs hp)) := by
  cases r with
  | bad => exact c
  | exc k obs' => exact fun ρ' H' out n no => c ρ' _ out (CNxt.reh ch hg no n).1
  | ok v own out obs' =>
    intro ρ' H' x n r no
    obtain ⟨n', kp⟩ := CNxt.reh ch hg no n
    refine c ρ' _ x n' ?_
    cases own with
    | false => exact Rp.mono kp r
    | true =>
      obtain ⟨a, h1, h2, h3, h4⟩ := r
      have hc : a ∉ cs := fun z => by
        obtain ⟨us, q⟩ := h2.get
        rw [no a z] at q; cases q
      refine ⟨a, h1, ?_, h3, (unhold_out hc).symm.trans h4⟩
      cases h2 with
      | @lst _ xs vs e r => exact .lst ((hold_out hc).trans e) (Rps.mono kp r)
end
section
variable {Z : Nm} {W : WX} {ρ : List Addr} {s : Sta} {σ : Sg} {H : Hp}
theorem cpst_of {r : CR} {Q : VK} (m : Sim Z ρ s σ H) (q : Pst Z W (rRV Z σ) ρ s σ H (r.toM s) Q) : CPst Z none ρ H r Q (WE W σ) := by
  cases r with
  | bad => exact q
  | ok v o out obs' =>
    intro ρ' H' x n r
    have n1 := CNxt.nxt m n
    exact q ρ' H' x n1 (CRes.rv m (fun a h => n1.own h) r)
  | exc c obs' =>
    intro ρ' H' out n
    exact q ρ' H' (CNxt.nxt m n)
end
end Qv
end
section
set_option Elab.async false
set_option linter.all false
set_option autoImplicit false
set_option maxRecDepth 100000
set_option maxHeartbeats 1000000
/-! Q16: a lambda is made and handed to a call. -/
namespace Qv
open PySem PySem.Spec PyProof.Rows L2

/-- a thing that we know by a word of our own is known to its object from now on -/
theorem inv_still {X : Cx} {pins : List (Addr × Obj)} {σ : Sg} {H : Hp} {s : Shared} {a : Addr} {φ : Heap → Prop} {o : Obj} (I : Inv X pins σ H s) (h : H a = some (.ext φ)) (ho : s.heap.get? a = some o) :
    Inv X pins σ (upd H a (.frz o (.own 0))) s := by
  have ne : ∀ b u, H b = some u → (∀ φ, u ≠ .ext φ) → b ≠ a := fun b u q w z => by
    rw [z, h] at q
    exact w φ (Option.some.inj q).symm
  have nn : ∀ b, H b = none → b ≠ a := fun b q z => by
    rw [z, h] at q
    cases q
  refine ⟨I.ok, I.os, I.bare, ⟨I.base.keep, I.base.slot, fun b o q n hx => ?_, I.base.there, fun b xs q => ?_, fun b o u q => ?_, fun b ps q => ?_⟩, I.loc, I.cell, ?_, fun x c q => ?_, fun p hp => ?_, fun b u q => ?_, I.len⟩
  · have := I.base.free b o q n hx
    rw [upd_ne (nn b this)]
    exact this
  · have := I.base.tups b xs q
    rw [upd_ne (ne b _ this fun _ z => nomatch z)]
    exact this
  · have := I.base.frzs b o u q
    rw [upd_ne (ne b _ this fun _ z => nomatch z)]
    exact this
  · obtain ⟨m, this⟩ := I.base.tbls b ps q
    exact ⟨m, by rw [upd_ne (ne b _ this fun _ z => nomatch z)]; exact this⟩
  · rw [upd_ne (nn _ I.free)]
    exact I.free
  · rw [upd_ne (nn _ (I.freeC x c q))]
    exact I.freeC x c q
  · obtain ⟨h1, h2, h3, h4, h5⟩ := I.pin p hp
    exact ⟨h1, by rw [upd_ne (nn _ h2)]; exact h2, h3, h4, h5⟩
  · by_cases hb : b = a
    · subst hb
      rw [upd_same] at q
      cases q
      exact ⟨ho, o, ho⟩
    · rw [upd_ne hb] at q
      refine (I.hok b u q).stay (fun c v _ q => q) (fun c q => ?_) fun c xs q => ?_
      · rw [upd_ne (ne c _ q fun _ z => nomatch z)]
        exact q
      · rw [upd_ne (ne c _ q fun _ z => nomatch z)]
        exact q
/-- behind the making of a lambda: its object f, its code object -/
structure LamR (Z : Nm) (H H1 : Hp) (L : LamD) (cl : List (Str × Addr)) (f : Addr) : Prop where
  fr : ∀ b o, H b = some o → (∀ ps, o ≠ .tbl ps) → H1 b = some o
  tb : ∀ b ps, H b = some (.tbl ps) → ∃ ps', H1 b = some (.tbl ps')
  tab : ∀ p ∈ Z.tbs, TabF H1 p.1 p.2
  ob : ∃ (pm ctv : Value) (c : Addr) (oc : Obj) (cvs : Array Value) (t : Tok), H1 f = some (.frz (PySem.W.kla_obj "<lambda>" L.qual L.params L.body L.scope cl pm c ctv) (.own 0)) ∧
    H1 c = some (.frz oc (.own 0)) ∧ oc.data = .fields cvs ∧ cvs[1]? = some (.str L.qual t)
section
variable {X : Cx} {pins : List (Addr × Obj)} {σ : Sg} {H : Hp} {s : Shared}
theorem lam_new {Z : Nm} {c P : Addr} {nm : Nat → Nat → Str} {params : Arguments} {body : Expr} {scope : Scope} {pos : Pos} {lps lfr : List Str} {E : Value → Shared → Prop} {Q : Value → Shared → Prop} (I : Inv X pins σ H s) (TB : LamX.TabB X.base X.mg c P) (hcode : X.env.code = .ref c)
    (hm : (P, nm) ∈ Z.tbs) (hn : nm pos.line pos.col = X.env.qual ++ "<lambda>") (hu : ∀ p ∈ Z.tbs, p.1 = P → p.2 = nm) (hT : ∀ p ∈ Z.tbs, TabF H p.1 p.2) (hdef : defaultsOf params X.env = ([], [])) (hfree : ∀ y ∈ scope.names, y.2 = .free → ∃ c, X.env.cells.lookup y.1 = some c)
    (h : ∀ (f : Addr) (H1 : Hp) (s' : Shared), Inv X pins σ H1 s' → LamR Z H H1 ⟨X.env.qual ++ "<lambda>", params, body, scope, lps, lfr⟩ (cloFrom X.env.cells scope.names []) f → Q (.ref f) s') :
    wpAny (model X.prog X.w) X.A (eval (.Lambda params body scope pos) X.env) Q E s := by
  obtain ⟨ps, hP, ht, ha⟩ := hT _ hm
  refine PySem.W.kla_eval hdef ?_
  have bP : s.heap.BuiltinsAt X.mg P := TB.bm.keeps I.bk
  have hP' : s.heap.get? P = some { cls := .none, data := .fields ps } := I.hok P _ hP
  cases hc : codeAmong pos ps.toList with
  | none =>
    refine PySem.W.kla_makeFunction (mg := X.mg) (c := c) (P := P) (ps := ps) (closure_ok hfree) I.ok.glob (I.mod.glob.keeps I.bk) hcode (TB.code.keeps I.bk) hP' ht hc TB.gP bP fun c' ctv h' tk hx hge hlt hrec htb => ?_
    obtain ⟨c2, oc, vs, t, e2, hoc, hd, hv⟩ := hrec
    cases e2
    have nC : H c' = none := I.hok.fresh hge
    have nPc : P ≠ c' := ne_of_none hP nC
    have I1 := LamX.inv_table (t' := tk) (more := #[rawInt pos.line, rawInt pos.col, .ref c']) (h' := h') I hP (fun b o hb e => hx b o hb e) htb hge ⟨oc, vs, t, hoc, hd, hv⟩
    have I2 := inv_still (o := oc) I1 (upd_same (o := LamX.CodeO c' (X.env.qual ++ "<lambda>"))) hoc
    rw [upd_upd] at I2
    have I3 := I2.laid (a := h'.objs.size) (o := .frz (PySem.W.kla_obj "<lambda>" (X.env.qual ++ "<lambda>") params body scope (cloFrom X.env.cells scope.names []) ((X.mg "__name__").getD .none) c' ctv) (.own 0)) (t' := tk)
      (h' := h'.push (PySem.W.kla_obj "<lambda>" (X.env.qual ++ "<lambda>") params body scope (cloFrom X.env.cells scope.names []) ((X.mg "__name__").getD .none) c' ctv)) (fun b u e => Heap.get?_push_of_some _ e) (Nat.le_refl _) ⟨Heap.get?_push_size _ rfl, _, Heap.get?_push_size _ rfl⟩
    have sz : s.heap.objs.size ≤ h'.objs.size := Nat.le_trans hge (Nat.le_of_lt hlt)
    have nF : ∀ b o, H b = some o → b ≠ h'.objs.size := fun b o e z => by
      have := I.hok.fresh (a := b) (by rw [z]; exact sz)
      rw [e] at this
      cases this
    have fr : ∀ b o, H b = some o → (∀ ps, o ≠ .tbl ps) → upd (upd (upd H P (.tbl (ps ++ #[rawInt pos.line, rawInt pos.col, .ref c']))) c' (.frz oc (.own 0))) h'.objs.size (.frz (PySem.W.kla_obj "<lambda>" (X.env.qual ++ "<lambda>") params body scope (cloFrom X.env.cells scope.names []) ((X.mg "__name__").getD .none) c' ctv) (.own 0)) b = some o := fun b o e n => by
      rw [upd_ne (nF b o e), upd_ne (ne_of_none e nC), upd_ne (fun z => n ps (Option.some.inj (e.symm.trans (by rw [z]; exact hP))))]
      exact e
    have atC : upd (upd (upd H P (.tbl (ps ++ #[rawInt pos.line, rawInt pos.col, .ref c']))) c' (.frz oc (.own 0))) h'.objs.size (.frz (PySem.W.kla_obj "<lambda>" (X.env.qual ++ "<lambda>") params body scope (cloFrom X.env.cells scope.names []) ((X.mg "__name__").getD .none) c' ctv) (.own 0)) c' = some (.frz oc (.own 0)) := by
      rw [upd_ne (Nat.ne_of_lt hlt), upd_same]
    have atP : upd (upd (upd H P (.tbl (ps ++ #[rawInt pos.line, rawInt pos.col, .ref c']))) c' (.frz oc (.own 0))) h'.objs.size (.frz (PySem.W.kla_obj "<lambda>" (X.env.qual ++ "<lambda>") params body scope (cloFrom X.env.cells scope.names []) ((X.mg "__name__").getD .none) c' ctv) (.own 0)) P = some (.tbl (ps ++ #[rawInt pos.line, rawInt pos.col, .ref c'])) := by
      rw [upd_ne (nF P _ hP), upd_ne nPc, upd_same]
    have eL : (ps ++ #[rawInt pos.line, rawInt pos.col, .ref c']).toList = ps.toList ++ [rawInt pos.line, rawInt pos.col, .ref c'] := by simp
    refine h _ _ _ I3 ⟨fr, fun b qs e => ?_, fun p hp => ?_, _, ctv, c', oc, vs, t, upd_same, atC, hd, hv⟩
    · by_cases hb : b = P
      · rw [hb]; exact ⟨_, atP⟩
      · refine ⟨qs, ?_⟩
        rw [upd_ne (nF b _ e), upd_ne (ne_of_none e nC), upd_ne hb]
        exact e
    · by_cases hb : p.1 = P
      · rw [hu p hp hb, hb]
        refine ⟨_, atP, by rw [eL]; exact PySem.TriplesOk_snoc _ _ _ _ ht, fun p' cv hcv => ?_⟩
        rw [eL] at hcv
        rcases NdefX.among_app2 _ ht hcv with z | ⟨z, z1, z2⟩
        · obtain ⟨c0, o0, v0, t0, e1, e2, e3, e4⟩ := ha p' cv z
          exact ⟨c0, o0, v0, t0, e1, fr _ _ e2 (fun _ z => nomatch z), e3, e4⟩
        · refine ⟨c', oc, vs, t, z, atC, hd, ?_⟩
          show vs[1]? = some (.str (nm p'.line p'.col) t)
          rw [← z1, ← z2, hn]
          exact hv
      · obtain ⟨qs, a1, a2, a3⟩ := hT p hp
        refine ⟨qs, ?_, a2, fun p' cv hcv => ?_⟩
        · rw [upd_ne (nF _ _ a1), upd_ne (ne_of_none a1 nC), upd_ne hb]
          exact a1
        · obtain ⟨c0, o0, v0, t0, e1, e2, e3, e4⟩ := a3 p' cv hcv
          exact ⟨c0, o0, v0, t0, e1, fr _ _ e2 (fun _ z => nomatch z), e3, e4⟩
  | some cv =>
    obtain ⟨c', oc, vs, t, e, hco, hd, hv⟩ := ha pos cv hc
    subst e
    refine PySem.W.kla_makeFunctionHit (mg := X.mg) (c := c) (P := P) (ps := ps) (closure_ok hfree) I.ok.glob (I.mod.glob.keeps I.bk) hcode (TB.code.keeps I.bk) hP' ht hc bP fun ctv h' tk hx hsz => ?_
    have I1 : Inv X pins σ H { s with heap := h', toks := tk } := I.kept hx
    have I3 := I1.laid (a := h'.objs.size) (o := .frz (PySem.W.kla_obj "<lambda>" (X.env.qual ++ "<lambda>") params body scope (cloFrom X.env.cells scope.names []) ((X.mg "__name__").getD .none) c' ctv) (.own 0)) (t' := tk)
      (h' := h'.push (PySem.W.kla_obj "<lambda>" (X.env.qual ++ "<lambda>") params body scope (cloFrom X.env.cells scope.names []) ((X.mg "__name__").getD .none) c' ctv)) (fun b u e => Heap.get?_push_of_some _ e) (Nat.le_refl _) ⟨Heap.get?_push_size _ rfl, _, Heap.get?_push_size _ rfl⟩
    have nF : ∀ b o, H b = some o → b ≠ h'.objs.size := fun b o e z => by
      have := I.hok.fresh (a := b) (by rw [z]; exact hsz)
      rw [e] at this
      cases this
    have fr : ∀ b o, H b = some o → upd H h'.objs.size (.frz (PySem.W.kla_obj "<lambda>" (X.env.qual ++ "<lambda>") params body scope (cloFrom X.env.cells scope.names []) ((X.mg "__name__").getD .none) c' ctv) (.own 0)) b = some o := fun b o e => by
      rw [upd_ne (nF b o e)]
      exact e
    refine h _ _ _ I3 ⟨fun b o e _ => fr b o e, fun b qs e => ⟨qs, fr b _ e⟩, fun p hp => (hT p hp).keep fun b o e _ => fr b o e, _, ctv, c', oc, vs, t, upd_same, fr _ _ hco, hd, ?_⟩
    have hv : vs[1]? = some (.str (nm pos.line pos.col) t) := hv
    rw [hn] at hv
    exact hv
end
section
variable {Z : Nm} {ρ : List Addr} {s : Sta} {σ : Sg} {H H1 : Hp} {L : LamD} {cl : List (Str × Addr)} {f : Addr}
theorem LamR.nxt (m : Sim Z ρ s σ H) (l : LamR Z H H1 L cl f) : Nxt Z ρ s σ H ρ s H1 := by
  have kp : Kp ρ H ρ H1 := ⟨fun a vs q => l.fr _ _ q (fun _ z => nomatch z), fun a o u q => l.fr _ _ q (fun _ z => nomatch z), List.prefix_refl _⟩
  refine ⟨⟨m.len, fun i v q => ?_, fun i v q => ?_, m.dis, m.obs.len, m.obs.nd, fun n ob b q1 q2 => ?_, l.tab⟩, List.prefix_refl _, fun a h => .inl h, fun b o h _ _ n => l.fr b o h n, fun i v q => ⟨v, q⟩, fun b q => ?_, l.tb⟩
  · obtain ⟨x, e1, e2⟩ := m.fr i v q
    exact ⟨x, e1, e2.mono kp⟩
  · obtain ⟨b, e1, e2⟩ := m.own i v q
    obtain ⟨vs, e⟩ := e2.get
    exact ⟨b, e1, e2.mono kp ((l.fr b _ e (fun _ z => nomatch z)).trans e.symm)⟩
  · obtain ⟨dx, fs, e1, e2, e3⟩ := m.obs.at_ n ob b q1 q2
    exact ⟨dx, fs, l.fr _ _ e1 (fun _ z => nomatch z), e2.mono kp, e3⟩
  · obtain ⟨vs, e⟩ := m.ownAt q
    rw [l.fr b _ e (fun _ z => nomatch z)]
    exact fun z => nomatch z
end
/-- the cells of the running def are younger than the module, and no frame -/
def CB (X : Cx) : Prop := ∀ x c, X.env.cells.lookup x = some c → X.base.get? c = none ∧ c ∉ X.fs
section
variable {Z : Nm} {W : WX} {F : FT} {X : Cx}
theorem frzs_get {is : List Nat} : ∀ {s s' : Sta} {ws : List PV}, frzs is s = .ok ws s' → s' = s ∧ ws.length = is.length ∧ ∀ (n i : Nat), is[n]? = some i → ∃ v, ws[n]? = some v ∧ s.env[i]? = some (.fr v) := by
  induction is with
  | nil => intro s s' ws h; cases h; exact ⟨rfl, rfl, fun n i e => by simp at e⟩
  | cons i is ih =>
    intro s s' ws h
    have h : (frAt i s).bind (fun v s => (frzs is s).bind fun vs => pure (v :: vs)) = .ok ws s' := h
    unfold frAt at h
    cases e : slotAt i s with
    | no => rw [e] at h; cases h
    | own v => rw [e] at h; cases h
    | fr v =>
      rw [e] at h
      have h : (frzs is s).bind (fun vs => pure (v :: vs)) = .ok ws s' := h
      cases e2 : frzs is s with
      | bad => rw [e2] at h; cases h
      | exc c s1 => rw [e2] at h; cases h
      | ok vs s1 =>
        rw [e2] at h
        cases h
        obtain ⟨h1, h2, h3⟩ := ih e2
        refine ⟨h1, congrArg (· + 1) h2, fun n j e' => ?_⟩
        cases n with
        | zero => cases e'; exact ⟨v, rfl, slot_get e (fun z => nomatch z)⟩
        | succ n => exact h3 n j e'
theorem frzs_exc (is : List Nat) (s : Sta) (c : Nat) (s' : Sta) : frzs is s ≠ .exc c s' := by
  induction is generalizing s with
  | nil => exact fun h => nomatch h
  | cons i is ih =>
    intro h
    have h : (frAt i s).bind (fun v s => (frzs is s).bind fun vs => pure (v :: vs)) = .exc c s' := h
    unfold frAt at h
    cases e : slotAt i s with
    | no => rw [e] at h; cases h
    | own v => rw [e] at h; cases h
    | fr v =>
      rw [e] at h
      have h : (frzs is s).bind (fun vs => pure (v :: vs)) = .exc c s' := h
      cases e2 : frzs is s with
      | bad => rw [e2] at h; cases h
      | exc c s1 => exact ih s (by rw [e2] at h ⊢; cases h; rfl)
      | ok vs s1 => rw [e2] at h; cases h
end
end Qv
end
section
set_option Elab.async false
set_option linter.all false
set_option autoImplicit false
set_option maxRecDepth 100000
set_option maxHeartbeats 1000000
/-! Q17: a call that is handed a lambda; a lambda's promise; a name that holds a def or a closure is called. -/
namespace Qv
open PySem PySem.Spec PyProof.Rows L2

/-- where the captured names' cells stand -/
def cellsOf (cl : List (Str × Addr)) (fr : List Str) : List Addr := fr.filterMap fun y => cl.lookup y
theorem mem_cells {cl : List (Str × Addr)} {fr : List Str} {c : Addr} (h : c ∈ cellsOf cl fr) : ∃ y ∈ fr, cl.lookup y = some c := List.mem_filterMap.mp h
section
variable {Z : Nm} {W : WX} {F : FT} {X : Cx}
/-- the lambda's own facts at the place where it is made -/
structure LamAt (Z : Nm) (X : Cx) (d : Nat) (is : List Nat) (params : Arguments) (body : Expr) (scope : Scope) (pos : Pos) : Prop where
  tb : ∃ (c P : Addr) (nm : Nat → Nat → Str), LamX.TabB X.base X.mg c P ∧ X.env.code = .ref c ∧ (P, nm) ∈ Z.tbs ∧ nm pos.line pos.col = X.env.qual ++ "<lambda>" ∧ (∀ p ∈ Z.tbs, p.1 = P → p.2 = nm)
  la : ∃ lps fr, Z.la d = ⟨X.env.qual ++ "<lambda>", params, body, scope, lps, fr⟩ ∧ (X.Ok → NdefX.Caps X (cloFrom X.env.cells scope.names []) fr is) ∧ (∀ y c, (cloFrom X.env.cells scope.names []).lookup y = some c → y ∈ fr)
  df : defaultsOf params X.env = ([], [])
  hf : ∀ y ∈ scope.names, y.2 = .free → X.env.scope.names.lookup y.1 = some .cell ∨ X.env.scope.names.lookup y.1 = some .free
def tLam (Z : Nm) (L : LamD) (cl : List (Str × Addr)) : TE := fun σ H Q => (∀ p ∈ Z.tbs, TabF H p.1 p.2) ∧ ∀ f H1, LamR Z H H1 L cl f → Q (.ref f) H1
theorem pe_lam {d : Nat} {is : List Nat} {params : Arguments} {body : Expr} {scope : Scope} {pos : Pos} (l : LamAt Z X d is params body scope pos) : PE X (.Lambda params body scope pos) (tLam Z (Z.la d) (cloFrom X.env.cells scope.names [])) := by
  obtain ⟨c, P, nm, h1, h2, h3, h4, h5⟩ := l.tb
  obtain ⟨lps, fr, e, _, _⟩ := l.la
  refine ⟨fun pins s σ H Q I h => ?_⟩
  obtain ⟨hT, h⟩ := h
  rw [e] at h
  refine lam_new (lps := lps) (lfr := fr) I h1 h2 h3 h4 h5 hT l.df (fun y hy e => (l.hf y hy e).elim (fun z => I.ok.has _ (.inl z)) fun z => I.ok.has _ (.inr z)) fun f H1 s' I1 r => ?_
  exact ⟨.ref f, H1, I1, rfl, h f H1 r⟩
/-- the captured values, as the core tells them, and the cells -/
theorem cells_fr {pins : List (Addr × Obj)} {σ : Sg} {H : Hp} {sh : Shared} {ρ : List Addr} {s : Sta} {cl : List (Str × Addr)} {fr : List Str} {is : List Nat} {ws : List PV} (I : Inv X pins σ H sh) (m : Sim Z ρ s σ H) (cp : NdefX.Caps X cl fr is) (cb : CB X) (all : ∀ y c, cl.lookup y = some c → y ∈ fr)
    (hl : ws.length = is.length) (hw : ∀ (n i : Nat), is[n]? = some i → ∃ v, ws[n]? = some v ∧ s.env[i]? = some (.fr v)) :
    Free H (cellsOf cl fr) sh.heap (frs X.stack) ∧ (∀ c ∈ cellsOf cl fr, X.base.get? c = none) ∧ ∃ vs, Rps Z ρ H ws vs ∧ CellsF (hold H (cellsOf cl fr) sh.heap) H cl fr vs := by
  have C := NdefX.cells_of I cp
  have hb : ∀ c ∈ cellsOf cl fr, X.base.get? c = none ∧ c ∉ X.fs ∧ c ≠ X.env.locals := fun c hc => by
    obtain ⟨y, _, e⟩ := mem_cells hc
    have e' := cp.sub y c e
    exact ⟨(cb y c e').1, (cb y c e').2, I.cne y c e'⟩
  have F : Free H (cellsOf cl fr) sh.heap (frs X.stack) := by
    refine ⟨fun c hc => ?_, fun c hc => ?_, fun c hc z => ?_⟩
    · obtain ⟨y, _, e⟩ := mem_cells hc
      obtain ⟨_, v, o, h1, h2⟩ := C.all y c e
      exact ⟨o, v, h1, h2⟩
    · obtain ⟨y, _, e⟩ := mem_cells hc
      exact (C.all y c e).1
    · rcases List.mem_cons.mp (I.stkSub c z) with q | q
      · exact (hb c hc).2.2 q
      · exact (hb c hc).2.1 q
  have hil : is.length = fr.length := by
    have := congrArg List.length cp.at_
    rw [List.length_map, List.length_map] at this
    exact this
  -- the values
  have one : ∀ (n i : Nat), is[n]? = some i → ∃ v x, ws[n]? = some v ∧ NdefX.slotAt σ i = some x ∧ Rp Z ρ H v x := fun n i e => by
    obtain ⟨v, h1, h2⟩ := hw n i e
    obtain ⟨x, h3, h4⟩ := m.fr i v h2
    exact ⟨v, x, h1, NdefX.slotAt_of h3, h4⟩
  have vals : ∃ vs, Rps Z ρ H ws vs ∧ ∀ (n i : Nat), is[n]? = some i → ∃ x, vs[n]? = some x ∧ NdefX.slotAt σ i = some x := by
    clear hw C F hb cp hil
    induction ws generalizing is with
    | nil =>
      cases is with
      | nil => exact ⟨[], .nil, fun n i e => by simp at e⟩
      | cons _ _ => cases hl
    | cons w ws ih =>
      cases is with
      | nil => cases hl
      | cons i is =>
        obtain ⟨v, x, h1, h2, h3⟩ := one 0 i rfl
        cases h1
        obtain ⟨vs, r, k⟩ := ih (is := is) (Nat.succ.inj hl) (fun n j e => one (n + 1) j e)
        refine ⟨x :: vs, .cons h3 r, fun n j e => ?_⟩
        cases n with
        | zero => cases e; exact ⟨x, rfl, h2⟩
        | succ n => exact k n j e
  obtain ⟨vs, r, k⟩ := vals
  refine ⟨F, fun c hc => (hb c hc).1, vs, r, ⟨by rw [← r.length, hl, hil], all, C.inj, fun n y e => ?_⟩⟩
  have hn : n < is.length := by rw [hil]; exact (List.getElem?_eq_some_iff.mp e).1
  have ei : is[n]? = some is[n] := List.getElem?_eq_getElem hn
  obtain ⟨x, h1, h2⟩ := k n _ ei
  obtain ⟨c, e1, e2⟩ := C.has n y e
  obtain ⟨u, ru, o, h3, h4⟩ := e2 x (by rw [List.getElem?_map, ei, Option.map_some, h2])
  have hc : c ∈ cellsOf cl fr := List.mem_filterMap.mpr ⟨y, List.mem_of_getElem? e, e1⟩
  exact ⟨c, o, u, x, e1, hold_in hc h3, F.no c hc, h4, h1, ru⟩
theorem s_callk {f d : Nat} {is : List Nat} {A : Addr} {as : E} {x : Str} {params : Arguments} {body : Expr} {scope : Scope} {lpos : Pos} {es : List Expr} {p pos : Pos} {k np : Nat} {fd : FuncData} {ps : List Str}
    (FO : FnOk X.prog X.w X.K X.mg X.base (L2N.CX X.prog X.w) k A fd ps (spF Z false (F f) np)) (hnp : ∀ as obs, F f as obs ≠ .bad → as.length = np)
    (hr : Room k X.A) (hg : Gl X x) (hm : X.mg x = some (.ref A)) (hk : PySem.W.keepIn X.K (.ref A) = true) (hb : Binds X.K fd ps []) (tk : L2N.Takes X W) (l : LamAt Z X d is params body scope lpos) (cb : X.Ok → CB X)
    (ha : PA X es (rdA Z W F as)) (hdb : (x == ("__debug__" : Str)) = false) (hp : es.all plainE = true) :
    PE X (.Call (.Name x p) (.Lambda params body scope lpos :: es) [] pos) (rdE Z W F (.callk f d is as)) := by
  obtain ⟨lps, fr, eL, cp, all⟩ := l.la
  have hpl : plainE (.Lambda params body scope lpos) = true := rfl
  have haL := pa_cons (pe_lam l) ha (star_cons hpl)
  refine ⟨fun pins sh σ H Q I h => ?_⟩
  obtain ⟨ρ, s, m, h⟩ := h
  have h : Pst Z W (rRV Z σ) ρ s σ H ((dA F as s).bind fun vs s => (frzs is s).bind fun ws s => (F f (.clo d ws :: vs) s.obs).keep.toM s) Q := h
  refine wpAny_Call_Name_kw (ld_glob I hg hm ?_ hdb)
  refine PySem.W.callWith_K (h₀ := X.base) I.ok.mod.kin hk (thn (haL.run pos pins sh σ H (fun vs H1 => ∃ (fl : Addr) (vs' : List V) (ρ1 : List Addr) (s1 : Sta) (as' : List PV), vs = .ref fl :: vs' ∧ Nxt Z ρ s σ H ρ1 s1 H1 ∧ Rps Z ρ1 H1 as' vs' ∧
    (∃ (pm ctv : Value) (c : Addr) (oc : Obj) (cvs : Array Value) (t : Tok), H1 fl = some (.frz (PySem.W.kla_obj "<lambda>" (Z.la d).qual (Z.la d).params (Z.la d).body (Z.la d).scope (cloFrom X.env.cells scope.names []) pm c ctv) (.own 0)) ∧
      H1 c = some (.frz oc (.own 0)) ∧ oc.data = .fields cvs ∧ cvs[1]? = some (.str (Z.la d).qual t)) ∧
    Pst Z W (rRV Z σ) ρ1 s1 σ H1 ((frzs is s1).bind fun ws s => (F f (.clo d ws :: as') s.obs).keep.toM s) Q) I ?_) fun us s1 ⟨vs, H1, I1, r, q⟩ => ⟨I1.kIn, ?_⟩) (star_cons hpl) (star_any hp)
  · refine ⟨m.obs.tab, fun fl H1 lr => ?_⟩
    have n0 := lr.nxt m
    refine ⟨ρ, s, n0.sim, Pst.bind (rel2 := rRV Z σ) n0.sim (h.later m n0) fun ρ1 s1 H2 as' vs e n k q => ?_⟩
    have kp := n.kp n0.sim
    obtain ⟨pm, ctv, c, oc, cvs, t, h1, h2, h3, h4⟩ := lr.ob
    exact ⟨fl, vs, ρ1, s1, as', rfl, n0.trans m n, k, ⟨pm, ctv, c, oc, cvs, t, kp.frz _ _ _ h1, kp.frz _ _ _ h2, h3, h4⟩, q.later n0.sim n⟩
  · obtain ⟨fl, vs', ρ1, st, as', rfl, n, rk, ⟨pm, ctv, c, oc, cvs, t, h1, h2, h3, h4⟩, q⟩ := q
    cases ez : frzs is st with
    | bad => rw [ez] at q; exact False.elim q
    | exc c s' => exact absurd ez (frzs_exc is st c s')
    | ok ws s' =>
      rw [ez] at q
      obtain ⟨rfl, hl, hw⟩ := frzs_get ez
      have q : Pst Z W (rRV Z σ) ρ1 s' σ H1 ((F f (.clo d ws :: as') s'.obs).keep.toM s') Q := q
      obtain ⟨Fr, hbase, wvs, rw_, cf⟩ := cells_fr I1 n.sim (cp I1.ok) (cb I1.ok) all hl hw
      have hne : F f (.clo d ws :: as') s'.obs ≠ .bad := fun z => by
        rw [z] at q
        exact q
      have c1 := CPst.un Fr n.sim.obs (cpst_of n.sim q)
      have e0 : Env0 X.prog X.w X.K X.mg X.base X.A X.stack s1 (hold H1 (cellsOf (cloFrom X.env.cells scope.names []) fr) s1.heap) := by
        obtain ⟨a1, a2, a3, a4, a5, a6, a7, a8⟩ := I1.env0
        refine ⟨a1, a2, fun b o e => ⟨(a3 b o e).1, ?_⟩, a4, a5, fun b hb => ?_, Fr.hok a7, a8⟩
        · rw [hold_out fun z => ?_]
          · exact (a3 b o e).2
          · rw [hbase b z] at e
            cases e
        · rw [hold_out fun z => Fr.fs b z hb]
          exact a6 b hb
      have ca : CloAt (Z.la d) (hold H1 (cellsOf (cloFrom X.env.cells scope.names []) fr) s1.heap) H1 fl wvs := by
        refine ⟨pm, ctv, c, _, oc, cvs, t, (Fr.kp (ρ := ρ1)).frz _ _ _ h1, (Fr.kp (ρ := ρ1)).frz _ _ _ h2, h3, h4, ?_⟩
        rw [eL]
        exact cf
      have hlen := hnp _ _ hne
      have sp : spF Z false (F f) np (.ref fl :: vs') (hold H1 (cellsOf (cloFrom X.env.cells scope.names []) fr) s1.heap) (fun x H' => Q x (unhold H' (cellsOf (cloFrom X.env.cells scope.names []) fr)))
          (fun cls dd H' => WE W σ cls dd (unhold H' (cellsOf (cloFrom X.env.cells scope.names []) fr))) := by
        refine ⟨?_, ρ1, .clo d ws :: as', s'.obs, none, Fr.obs n.sim.obs, .plain (.cons (.clo ca Fr.kp rw_) (rk.mono Fr.kp)), c1⟩
        rw [List.length_cons] at hlen ⊢
        rw [← rk.length]
        exact hlen
      have hul : us.length = ps.length := by rw [← r.length]; exact FO.len _ _ _ _ sp
      have b := hb s1 us I1.kIn (by rw [List.append_nil]; exact hul)
      rw [List.append_nil] at b
      refine wpAny_call (codeAny_mono (FO.run X.A X.stack s1 _ ⟨us, []⟩ us _ _ _ hr e0 b r sp) fun r s2 hq => ?_)
      cases r with
      | error e => exact L2N.passAt tk σ pins H1 s1 e s2 I1 (Fr.cx hq)
      | ok fl =>
        cases fl with
        | ret u => exact I1.after (Fr.ce hq)
        | next => exact False.elim hq
        | brk => exact False.elim hq
        | cont => exact False.elim hq
end
end Qv
end
section
set_option Elab.async false
set_option linter.all false
set_option autoImplicit false
set_option maxRecDepth 100000
set_option maxHeartbeats 1000000
/-! Q18: a lambda's promise; a name that holds a def or a closure is called. -/
namespace Qv
open PySem PySem.Spec PyProof.Rows L2

def LamOk (P : Program) (w : World) (K : PySem.W.Frag) (mg : Str → Option Value) (base : Heap) (k : Nat) (Z : Nm) (d : Nat) (C : List PV → List Ob → Qv.CR) : Prop :=
  ∀ (A : Around) (outer : List Env) (s : Shared) (H H0 : Hp) (us : List Value) (vs wvs : List V) (f : Addr) (ρ : List Addr) (ws as : List PV) (obs : List Ob) (Q : VK) (E : XK), Room k A → Env0 P w K mg base A outer s H → CloAt (Z.la d) H H0 f wvs → Kp ρ H0 ρ H → Rps Z ρ H0 ws wvs →
    Obs Z ρ obs H → Rps Z ρ H as vs → PV.datas as = true → Vals vs us → as.length = (Z.la d).ps.length → CPst Z none ρ H (C (as ++ ws) obs) Q E → codeAny (model P w) A (.call (.ref f) ⟨us, []⟩) (L2.CR (L2N.CX P w) outer P w H s Q E) s
theorem Rps.dataA {Z : Nm} {ρ : List Addr} {H : Hp} {cs : List Addr} {xs : List PV} {vs : List V} (ch : CellsH H cs) (d : PV.datas xs = true) (r : Rps Z ρ H xs vs) : Rps Z ρ (unhold H cs) xs vs := Rps.dataM d ch.tup ch.lst r
theorem lam_ok {P : Program} {w : World} {K : PySem.W.Frag} {mg : Str → Option Value} {base : Heap} {k n d : Nat} {Z : Nm} {D : Nat → Option Def} {df : Def} {e : E} {N ps fr : List Str} {qual : Str} {params : Arguments} {body : Expr} {scope : Scope}
    (hL : Z.la d = ⟨qual, params, body, scope, ps, fr⟩) (hD : D d = some df) (hdf : df = ⟨ps.length + fr.length, N.length, .ret e, false⟩) (S : NdefX.NScope N ps fr scope)
    (hbind : ∀ (cl : List (Str × Addr)) (pm cv ctv : Value) (us : List Value), us.length = ps.length → bindArgs (PySem.W.kla_fn "<lambda>" qual params body scope cl pm cv ctv) ⟨us, []⟩ = pure (ps.zip us))
    (hb : ∀ (cl : List (Str × Addr)) (c f : Addr) (A : Around) (outer : List Env) (s : Shared) (H : Hp) (E : XK), Room k (A.deeper (NdefX.envF ⟨"<lambda>", qual, params, [], scope, cl, c⟩ f s.heap.objs.size)) →
      PE (NdefX.ncx (L2N.CX P w) P w K mg base N ⟨"<lambda>", qual, params, [], scope, cl, c⟩ f A outer s H E) body (rdE Z (fun cls dd _ H => E cls dd H) (callF D n) e)) :
    LamOk P w K mg base (k + 1) Z d (callF D (n + 1) d) := by
  intro A outer s H H0 us vs wvs f ρ ws as obs Q E hr e0 ca kp rws ob ras hda rv hal cp
  rw [hL] at ca hal
  obtain ⟨pm, ctv, c, cl, oc, cvs, t, h1, h2, h3, h4, cf⟩ := ca.ex
  dsimp only at h1 h4 cf hal
  have hh : ∀ b ∈ cellsOf cl fr, ∃ o, H b = some (.frz o (.own 0)) ∧ s.heap.get? b = some o ∧ b ∉ frs outer := fun b hb => by
    obtain ⟨y, hy, e⟩ := mem_cells hb
    obtain ⟨i, hi⟩ := List.getElem?_of_mem hy
    obtain ⟨c', o, u, v, e1, e2, e3, e4⟩ := cf.at_ i y hi
    rw [e] at e1
    cases e1
    refine ⟨o, e2, (e0.hok b _ e2).1, fun z => ?_⟩
    rw [e0.frf b z] at e2
    cases e2
  have ch : CellsH H (cellsOf cl fr) := fun b hb => by
    obtain ⟨y, hy, e⟩ := mem_cells hb
    obtain ⟨i, hi⟩ := List.getElem?_of_mem hy
    obtain ⟨c', o, u, v, e1, e2, e3, e4, _⟩ := cf.at_ i y hi
    rw [e] at e1
    cases e1
    exact ⟨o, _, e2, e4⟩
  have h0 : ∀ b ∈ cellsOf cl fr, H0 b = none := fun b hb => by
    obtain ⟨y, hy, e⟩ := mem_cells hb
    obtain ⟨i, hi⟩ := List.getElem?_of_mem hy
    obtain ⟨c', o, u, v, e1, e2, e3, e4, _⟩ := cf.at_ i y hi
    rw [e] at e1
    cases e1
    exact e3
  have cp1 := CPst.letgo (hp := s.heap) ch (fun b hb => let ⟨o, a, b, _⟩ := hh b hb; ⟨o, a, b⟩) cp
  refine codeAny_mono (R := L2.CR (L2N.CX P w) outer P w (unhold H (cellsOf cl fr)) s (fun v H' => (∀ b ∈ cellsOf cl fr, H' b = none) → Q v (hold H' (cellsOf cl fr) s.heap)) (fun cls dd H' => (∀ b ∈ cellsOf cl fr, H' b = none) → E cls dd (hold H' (cellsOf cl fr) s.heap))) ?_ fun r s' hq => ?_
  · have e1 : Env0 P w K mg base A outer s (unhold H (cellsOf cl fr)) := by
      obtain ⟨a1, a2, a3, a4, a5, a6, a7, a8⟩ := e0
      refine ⟨a1, a2, fun b o e => ⟨(a3 b o e).1, ?_⟩, a4, a5, fun b hb => ?_, hok_un (fun b hb => let ⟨o, e, _⟩ := hh b hb; ⟨o, .inl e⟩) a7, a8⟩
      · unfold unhold; split
        · rfl
        · exact (a3 b o e).2
      · unfold unhold; split
        · rfl
        · exact a6 b hb
    have lim : s.heap.NoLimit := e0.mod.nolimit.keeps fun b o e => (e0.bs b o e).1
    have hvl : vs.length = ps.length := by rw [← ras.length]; exact hal
    have hwl : wvs.length = fr.length := cf.len
    refine PySem.W.kla_callFunE hr.depth (e0.hok f _ h1).1 rfl S.co S.gen rfl ⟨c, oc, cvs, t, rfl, (e0.hok c _ h2).1, h3, h4⟩ ?_
    rw [hbind cl pm (.ref c) ctv us (by rw [← rv.length]; exact hvl)]
    refine wpAny_pure (wpAny_newFunctionEnv S.nocell (fun ⟨n, _⟩ hy => S.par n (List.of_mem_zip hy).1) (fun h₁ hns hsb => ⟨lim.fresh _ hsb, ?_⟩) S.kind)
    show codeAny _ _ (.expr body (NdefX.envF ⟨"<lambda>", qual, params, [], scope, cl, c⟩ f s.heap.objs.size)) _ _
    have kps : ∀ b o, s.heap.get? b = some o → h₁.get? b = some o := fun b o e => hsb.extBut b o (Nat.ne_of_lt (Heap.lt_size e)) (Heap.get?_push_of_some _ e)
    have C : NdefX.CellsAt cl fr (wvs.map some) s.heap (unhold H (cellsOf cl fr)) := by
      refine ⟨by rw [List.length_map]; exact hwl, fun y b e => ?_, cf.inj, fun i y hi => ?_⟩
      · have hb : b ∈ cellsOf cl fr := List.mem_filterMap.mpr ⟨y, cf.all y b e, e⟩
        obtain ⟨o, v, q1, q2⟩ := ch b hb
        exact ⟨unhold_in hb, v, o, (e0.hok b _ q1).1, q2⟩
      · obtain ⟨b, o, u, v, e1, e2, e3, e4, e5, e6⟩ := cf.at_ i y hi
        refine ⟨b, e1, fun v' e' => ?_⟩
        rw [List.getElem?_map, e5] at e'
        cases e'
        exact ⟨u, e6, o, (e0.hok b _ e2).1, e4⟩
    have I : Inv (NdefX.ncx (L2N.CX P w) P w K mg base N ⟨"<lambda>", qual, params, [], scope, cl, c⟩ f A outer s (unhold H (cellsOf cl fr)) (fun cls dd H' => (∀ b ∈ cellsOf cl fr, H' b = none) → E cls dd (hold H' (cellsOf cl fr) s.heap))) [] (NdefX.startF N vs (wvs.map some)) (unhold H (cellsOf cl fr)) { s with heap := h₁, toks := s.toks + (ps.zip us).length } :=
      NdefX.inv_startN S hr.hd e1 hvl rv C hns kps
    have hNl : ps.length + fr.length ≤ N.length := by
      have := congrArg List.length S.pre
      rw [List.length_take, List.length_append] at this
      omega
    have es : NdefX.startF N vs (wvs.map some) = L2.start N (vs ++ wvs) := by
      unfold NdefX.startF L2.start
      rw [List.map_append, List.append_assoc, List.length_append, List.length_map, Nat.sub_sub]
    have rall : Rps Z ρ (unhold H (cellsOf cl fr)) (as ++ ws) (vs ++ wvs) := by
      refine Rps.append (ras.dataA ch hda) (rws.mono ⟨fun a us q => ?_, fun a o u q => ?_, List.prefix_refl _⟩)
      · exact ch.tup a us (kp.tup a us q)
      · rw [unhold_out fun z => ?_]
        · exact kp.frz a o u q
        · rw [h0 a z] at q; cases q
    have hl2 : (vs ++ wvs).length ≤ N.length := by rw [List.length_append]; omega
    have m : SimB ⟨unhold H (cellsOf cl fr), none, ρ⟩ Z ρ ⟨slots0 df (as ++ ws), obs⟩ (NdefX.startF N vs (wvs.map some)) (unhold H (cellsOf cl fr)) := by
      rw [es]
      refine sim_start (ch.obs ob) ?_ (by rw [hdf]) hl2
      rw [hdf]
      exact .plain rall
    have e2 : callF D (n + 1) d (as ++ ws) obs = endC df (dS (callF D n) (.ret e) ⟨slots0 df (as ++ ws), obs⟩) := by
      show (match D d with | none => Qv.CR.bad | some d => if (as ++ ws).length = d.np then endC d (dS (callF D n) d.body ⟨slots0 d (as ++ ws), obs⟩) else .bad) = _
      rw [hD]
      have : (as ++ ws).length = df.np := by
        rw [hdf, List.length_append, rws.length, hwl, hal]
      dsimp only
      rw [if_pos this]
      rw [show df.body = .ret e by rw [hdf]]
    rw [e2] at cp1
    have sp := cpst_end (lp := none) (ρ := ρ) (d := df) ⟨fun _ => by rw [hdf], fun _ => rfl⟩ cp1
    refine PySem.W.kla_codeExpr (wpAny_mono ((hb cl c f A outer s (unhold H (cellsOf cl fr)) _ (hr.deeper _)).run [] _ _ _ (fun v H' => (∀ b ∈ cellsOf cl fr, H' b = none) → Q v (hold H' (cellsOf cl fr) s.heap)) I ⟨ρ, _, m.sim, ?_⟩) (fun v s' hq => ?_) fun e s' hq => hq)
    · have sp : SPst ⟨unhold H (cellsOf cl fr), none, ρ⟩ Z _ ρ (unhold H (cellsOf cl fr)) ((dE (callF D n) e ⟨slots0 df (as ++ ws), obs⟩).bind fun r => pure (.ret r)) _ := sp
      exact SPst.expr m sp fun ρ1 s1 H1 r x e n k q => q ρ1 _ H1 x (m.nxt n) (n.kp m.sim) ((rRV Z _).ant (fun b hb => m.none b hb) k)
    · obtain ⟨w', H', J', rv, q⟩ := hq
      exact ⟨w', H', J'.os, J'.bare, J'.base, J'.hok, rv, q⟩
  · cases r with
    | error e => exact Held.cx hh hq
    | ok fl =>
      cases fl with
      | ret u => exact Held.ce hh hq
      | next => exact False.elim hq
      | brk => exact False.elim hq
      | cont => exact False.elim hq

/-- a def that a name may hold -/
def FnHeld (X : Cx) (Z : Nm) (F : FT) (k f : Nat) : Prop := ∃ (np : Nat) (fd : FuncData) (ps : List Str), FnOk X.prog X.w X.K X.mg X.base (L2N.CX X.prog X.w) k (Z.fa f) fd ps (spF Z false (F f) np) ∧ (∀ as obs, F f as obs ≠ .bad → as.length = np) ∧ PySem.W.keepIn X.K (.ref (Z.fa f)) = true ∧ Binds X.K fd ps []
/-- a lambda that a name may hold -/
def LamHeld (X : Cx) (Z : Nm) (F : FT) (k d : Nat) : Prop := LamOk X.prog X.w X.K X.mg X.base k Z d (F d) ∧ ∀ as obs, F d as obs ≠ .bad → as.length = (Z.la d).ps.length + (Z.la d).fr.length
section
variable {Z : Nm} {W : WX} {F : FT} {X : Cx}
theorem s_callv_core {i k : Nat} {fs ls : List Nat} {as : E} {x : Str} {es : List Expr} {p pos : Pos} (hF : ∀ f ∈ fs, FnHeld X Z F k f) (hLs : ∀ d ∈ ls, LamHeld X Z F k d) (hr : Room k X.A) (hN : X.N[i]? = some x) (hv : Vis X.env.scope x) (hd : (x == ("__debug__" : Str)) = false) (hcd : (x == ("__classdict__" : Str)) = false)
    (tk : L2N.Takes X W) (ha : PA X es (rdA Z W F as))
    (cK : ∀ {s : Shared} {A : Addr} {Q : Value → Shared → Prop}, X.K.In X.base → X.K.In s.heap → PySem.W.keepIn X.K (.ref A) = true → wpAny (model X.prog X.w) X.A (spliced (backTo pos (starEach es X.env))) (fun vs s₁ => X.K.In s₁.heap ∧ wpAny (model X.prog X.w) X.A (call (.ref A) vs) Q X.xe s₁) X.xe s → wpAny (model X.prog X.w) X.A (callWith pos (.ref A) [] (backTo pos (starEach es X.env)) []) Q X.xe s)
    (cF : ∀ {s : Shared} {A : Addr} {Q : Value → Shared → Prop}, PySem.W.FnAt A s.heap → wpAny (model X.prog X.w) X.A (spliced (backTo pos (starEach es X.env))) (fun vs s₁ => PySem.W.FnAt A s₁.heap ∧ wpAny (model X.prog X.w) X.A (call (.ref A) vs) Q X.xe s₁) X.xe s → wpAny (model X.prog X.w) X.A (callWith pos (.ref A) [] (backTo pos (starEach es X.env)) []) Q X.xe s) :
    PE X (.Call (.Name x p) es [] pos) (rdE Z W F (.callv i fs ls as)) := by
  refine ⟨fun pins sh σ H Q I h => ?_⟩
  obtain ⟨ρ, s, m, h⟩ := h
  have h : Pst Z W (rRV Z σ) ρ s σ H ((frAt i s).bind fun v s => (if okV fs ls v then (do
      let vs ← dA F as
      let s ← getS
      callV F v vs s.obs) else M.bad : M RV) s) Q := h
  unfold frAt at h
  cases e0 : slotAt i s with
  | no => rw [e0] at h; exact False.elim h
  | own v => rw [e0] at h; exact False.elim h
  | fr v =>
    rw [e0] at h
    have h : Pst Z W (rRV Z σ) ρ s σ H ((if okV fs ls v then (do
      let vs ← dA F as
      let s ← getS
      callV F v vs s.obs) else M.bad : M RV) s) Q := h
    obtain ⟨y, hs, rp⟩ := m.fr i v (slot_get e0 (fun z => nomatch z))
    cases ok : okV fs ls v with
    | false => rw [ok] at h; exact False.elim h
    | true =>
      rw [ok] at h
      have h : Pst Z W (rRV Z σ) ρ s σ H ((dA F as s).bind fun vs s => callV F v vs s.obs s) Q := h
      refine wpAny_Call_Name_kw (thn ((pe_var (pos := p) hN hv hd hcd).run pins sh σ H (fun v H1 => v = y ∧ H1 = H) I ⟨y, hs, rfl, rfl⟩) fun u s1 ⟨v1, H1, I1, r1, q1⟩ => ?_)
      obtain ⟨ev, eH⟩ := q1
      subst ev
      rw [eH] at I1
      have hA := ha.run pos pins s1 σ H (fun vs H1 => ∃ ρ1 st as', Nxt Z ρ s σ H ρ1 st H1 ∧ Rps Z ρ1 H1 as' vs ∧ Pst Z W (rRV Z σ) ρ1 st σ H1 (callV F v as' st.obs st) Q) I1 ⟨ρ, s, m, Pst.bind (rel2 := rRV Z σ) m h fun ρ1 st H1 as' vs e n k q => ⟨ρ1, st, as', n, k, q.later m n⟩⟩
      cases rp with
      | fn f =>
        have hf : f ∈ fs := List.contains_iff_mem.mp ok
        obtain ⟨np, fd, ps, FO, hnp, hk, hb⟩ := hF f hf
        obtain rfl : u = Value.ref (Z.fa f) := r1
        refine cK I1.ok.mod.kin I1.kIn hk (thn hA fun us s2 ⟨vs, H2, I2, r, ρ1, st, as', n, rk, q⟩ => ⟨I2.kIn, ?_⟩)
        have q : Pst Z W (rRV Z σ) ρ1 st σ H2 ((F f as' st.obs).toM st) Q := q
        exact run_fnS (E := WE W) FO hr hb (L2N.passAt tk σ) I2 r (rdcall hnp n.sim rk q)
      | @clo _ H0 d fl ws wvs ca kp rw_ =>
        have hf : d ∈ ls := List.contains_iff_mem.mp ok
        obtain ⟨LO, hnp⟩ := hLs d hf
        obtain rfl : u = Value.ref fl := r1
        have fnAt : ∀ {H1 : Hp} {s1 : Shared}, CloAt (Z.la d) H1 H0 fl wvs → HOk X.prog X.w H1 s1.heap → PySem.W.FnAt fl s1.heap := fun {H1 s1} ca hok => by
          obtain ⟨pm, ctv, c, cl, oc, cvs, t, h1, _⟩ := ca.ex
          exact ⟨_, _, _, _, (hok fl _ h1).1⟩
        refine cF (fnAt ca I1.hok) (thn hA fun us s2 ⟨vs, H2, I2, r, ρ1, st, as', n, rk, q⟩ => ?_)
        have kp2 := n.kp m
        have ca2 := ca.kp kp2
        refine ⟨fnAt ca2 I2.hok, ?_⟩
        have q : Pst Z W (rRV Z σ) ρ1 st σ H2 ((if PV.datas as' then (F d (as' ++ ws) st.obs).toM else M.bad : M RV) st) Q := q
        cases hda : PV.datas as' with
        | false => rw [hda] at q; exact False.elim q
        | true =>
          rw [hda] at q
          have q : Pst Z W (rRV Z σ) ρ1 st σ H2 ((F d (as' ++ ws) st.obs).toM st) Q := q
          have hne : F d (as' ++ ws) st.obs ≠ .bad := fun z => by
            rw [z] at q
            exact q
          have hl := hnp _ _ hne
          have hwl : ws.length = (Z.la d).fr.length := by
            obtain ⟨pm, ctv, c, cl, oc, cvs, t, _, _, _, _, cf⟩ := ca.ex
            rw [rw_.length]
            exact cf.len
          refine wpAny_call (codeAny_mono (LO X.A X.stack s2 H2 H0 us vs wvs fl ρ1 ws as' st.obs Q (WE W σ) hr I2.env0 ca2 (kp.low kp2) (rw_.mono ⟨fun _ _ h => h, fun _ _ _ h => h, kp2.pre⟩) n.sim.obs rk hda r (by rw [List.length_append] at hl; omega) (cpst_of n.sim q)) fun r s' hq => ?_)
          cases r with
          | error e => exact L2N.passAt tk σ pins H2 s2 e s' I2 hq
          | ok fl =>
            cases fl with
            | ret u => exact I2.after hq
            | next => exact False.elim hq
            | brk => exact False.elim hq
            | cont => exact False.elim hq
      | _ => cases ok
theorem s_callv {i k : Nat} {fs ls : List Nat} {as : E} {x : Str} {e : Expr} {es : List Expr} {p pos : Pos} (hF : ∀ f ∈ fs, FnHeld X Z F k f) (hLs : ∀ d ∈ ls, LamHeld X Z F k d) (hr : Room k X.A) (hN : X.N[i]? = some x) (hv : Vis X.env.scope x) (hd : (x == ("__debug__" : Str)) = false) (hcd : (x == ("__classdict__" : Str)) = false)
    (tk : L2N.Takes X W) (ha : PA X (e :: es) (rdA Z W F as)) (hp : (e :: es).all plainE = true) : PE X (.Call (.Name x p) (e :: es) [] pos) (rdE Z W F (.callv i fs ls as)) := by
  rw [List.all_cons, Bool.and_eq_true] at hp
  exact s_callv_core hF hLs hr hN hv hd hcd tk ha (fun hb _ hk h => PySem.W.callWith_K (h₀ := X.base) (first := []) hb hk h (star_cons hp.1) (star_any hp.2)) (fun hk h => PySem.W.callWith_F (first := []) hk h (star_cons hp.1) (star_any hp.2))
theorem s_callv0 {i k : Nat} {fs ls : List Nat} {x : Str} {p pos : Pos} (hF : ∀ f ∈ fs, FnHeld X Z F k f) (hLs : ∀ d ∈ ls, LamHeld X Z F k d) (hr : Room k X.A) (hN : X.N[i]? = some x) (hv : Vis X.env.scope x) (hd : (x == ("__debug__" : Str)) = false) (hcd : (x == ("__classdict__" : Str)) = false)
    (tk : L2N.Takes X W) : PE X (.Call (.Name x p) [] [] pos) (rdE Z W F (.callv i fs ls .nil)) := by
  refine s_callv_core hF hLs hr hN hv hd hcd tk a_nil (fun {s A Q} _ hi hk h => ?_) (fun {s A Q} hk h => ?_)
  · exact PySem.W.callWith_K0 (first := []) hi hk fun Γ p hΓ => (show _ ∧ wpAny (model X.prog X.w) X.A (call (.ref A) []) Q X.xe s from h Γ p hΓ).2 Γ p hΓ
  · exact PySem.W.callWith_F0 (first := []) hk fun Γ p hΓ => (show _ ∧ wpAny (model X.prog X.w) X.A (call (.ref A) []) Q X.xe s from h Γ p hΓ).2 Γ p hΓ
end
end Qv
end
section
set_option Elab.async false
set_option linter.all false
set_option autoImplicit false
set_option maxRecDepth 100000
set_option maxHeartbeats 1000000
/-! Q19: walks end while an exception is handled. -/
namespace Qv
open PySem PySem.Spec PyProof.Rows L2 HotX
section
variable {prog : Program} {w : World} {A : Around} {E : Value → Shared → Prop} {s : Shared} {x1 : Addr} {h h' : Heap}
theorem hot_keep (hot : HotAt A x1 h) (k : ∀ o, h.get? x1 = some o → h'.get? x1 = some o) : HotAt A x1 h' := by
  obtain ⟨hh, o, vs, e, d, c⟩ := hot
  exact ⟨hh, o, vs, k o e, d, c⟩
theorem hot_ne {it : Addr} {o : Obj} {vs : Array Value} (hot : HotAt A x1 h) (e : h.get? it = some o) (d : ∀ vs : Array Value, o.data = .fields vs → vs[2]? ≠ some .none) : x1 ≠ it := by
  obtain ⟨hh, o1, vs1, e1, d1, c1⟩ := hot
  intro z
  rw [z, e] at e1
  cases e1
  exact d _ d1 c1
theorem hot_push {o : Obj} (hot : HotAt A x1 h) : HotAt A x1 (h.push o) := hot_keep hot fun o e => Heap.get?_push_of_some _ e
/-- StopIteration is raised: it is told of nothing but its class -/
theorem stop_hot {α : Type} {Q : α → Shared → Prop} (hot : HotAt A x1 s.heap)
    (hE : ∀ h' e, (∀ b o, s.heap.get? b = some o → h'.get? b = some o) → (∃ o, h'.get? e = some o ∧ o.cls = .type "StopIteration") → E (.ref e) { s with heap := h' }) :
    wpAny (model prog w) A (newExc (.type "StopIteration") [] >>= fun e => (raiseNew e : Sem α)) Q E s := by
  obtain ⟨hh, o1, vs1, h1, d1, c1⟩ := hot
  refine wpAny_bind ?_
  simp only [newExc, newTuple]
  refine wpAny_bind (wpAny_newObj_type ?_ (by size_fits))
  refine wpAny_bind (m := firstArgMember _ _) (wpAny_of_eq (a := Value.none) (by first | rfl | (simp only [firstArgMember]; rfl)) ?_)
  refine wpAny_newObj_type ?_ (by size_fits)
  refine raiseNew_hot ⟨hh, o1, vs1, Heap.get?_push_of_some _ (Heap.get?_push_of_some _ h1), d1, c1⟩ (Nat.ne_of_lt (Heap.lt_size (Heap.get?_push_of_some _ h1))) (Heap.get?_push_size _ rfl) rfl (by first | (simp; done) | (simp; omega) | (simp only [Array.size_append]; simp; omega)) ?_
  refine hE _ _ (fun b o e => ?_) ⟨_, Heap.get?_update_self _ (Heap.get?_push_size _ rfl) rfl, rfl⟩
  rw [Heap.get?_update_other _ _ (Nat.ne_of_gt (Heap.lt_size (Heap.get?_push_of_some _ e)))]
  exact Heap.get?_push_of_some _ (Heap.get?_push_of_some _ e)
theorem next_list_end {it l : Addr} {i : Nat} {items : Array Value} {Q : Value → Shared → Prop} (hot : HotAt A x1 s.heap) (hit : s.heap.IsListIter it l i) (hl : s.heap.IsList l items) (hx : items[i]? = none)
    (hE : ∀ h' e, Heap.ExtBut it s.heap h' → (∃ o, h'.get? e = some o ∧ o.cls = .type "StopIteration") → E (.ref e) { s with heap := h' }) :
    wpAny (model prog w) A (Builtin.SmallTypes.nextOf (.ref it)) Q E s := by
  obtain ⟨o, ho, hc, hd⟩ := id hit
  obtain ⟨ol, hol, _, nl, hdl⟩ := hl
  have ne : x1 ≠ it := hot_ne (vs := #[]) hot ho fun vs e c => by
    rw [hd] at e
    cases e
    simp at c
  unfold Builtin.SmallTypes.nextOf
  refine wpAny_bind (wpAny_callSpecial?_slot (name := Str.ofString "__next__") hit.typeIs slot_listiter_next (wpAny_call_entry slot_listiter_next hit.typeIs entry_listiter_next ?_ (args_listiter_next _)))
  show wpAny _ _ (field (.ref it) 0 >>= _) _ _ s
  refine wpAny_bind (wpAny_field ho hd (x := .ref l) rfl ?_)
  show wpAny _ _ (if (Value.ref l == Value.none) = true then _ else _) _ _ s
  rw [if_neg (show ¬ ((Value.ref l == Value.none) = true) from Bool.false_ne_true)]
  show wpAny _ _ (field (.ref it) 1 >>= _) _ _ s
  refine wpAny_bind (wpAny_field ho hd (x := .int i 0) rfl ?_)
  show wpAny _ _ (seqItems? (.ref l) >>= _) _ _ s
  refine wpAny_bind (wpAny_seqItems hol hdl ?_)
  simp only [Int.toNat_natCast, hx]
  refine wpAny_bind (wpAny_rule (wpAny_bind (wpAny_setField ho hd (by simp) ?_)))
  refine stop_hot (s := { s with heap := s.heap.update it (Obj.mapFields (·.setIfInBounds 0 .none)) }) (hot_keep (A := A) hot fun o e => ?_) fun h' e k z => hE h' e (fun b o hb q => k b o ?_) z
  · show (s.heap.update it _).get? x1 = some o
    rw [Heap.get?_update_other _ _ ne.symm]
    exact e
  · show (s.heap.update it _).get? b = some o
    rw [Heap.get?_update_other _ _ (Ne.symm hb)]
    exact q
theorem next_tuple_end {it l : Addr} {i : Nat} {items : Array Value} {Q : Option Value → Shared → Prop} (hot : HotAt A x1 s.heap) (hit : s.heap.IsTupleIter it l i) (hl : s.heap.IsTuple l items) (hx : items[i]? = none)
    (hQ : ∀ h', Heap.ExtBut it s.heap h' → Q none { s with heap := h' }) :
    wpAny (model prog w) A (pyNext (.ref it)) Q E s := by
  obtain ⟨o, ho, hc, hd⟩ := id hit
  obtain ⟨ol, hol, _, nl, hdl⟩ := hl
  have ne : x1 ≠ it := hot_ne (vs := #[]) hot ho fun vs e c => by
    rw [hd] at e
    cases e
    simp at c
  unfold pyNext
  refine wpAny_bind (wpAny_attempt (wpAny_callSpecial?_slot (name := Str.ofString "__next__") hit.typeIs F.slot_tuple_iterator_next (wpAny_call_entry F.slot_tuple_iterator_next hit.typeIs F.entry_tuple_iterator_next ?_ (F.args_tuple_iterator_next_1 _))))
  show wpAny _ _ (field (.ref it) 0 >>= _) _ _ s
  refine wpAny_bind (wpAny_field ho hd (x := .ref l) rfl ?_)
  show wpAny _ _ (if (Value.ref l == Value.none) = true then _ else _) _ _ s
  rw [if_neg (show ¬ ((Value.ref l == Value.none) = true) from Bool.false_ne_true)]
  show wpAny _ _ (field (.ref it) 1 >>= _) _ _ s
  refine wpAny_bind (wpAny_field ho hd (x := .int i 0) rfl ?_)
  show wpAny _ _ (seqItems? (.ref l) >>= _) _ _ s
  refine wpAny_bind (wpAny_seqItems hol hdl ?_)
  simp only [Int.toNat_natCast, hx]
  refine wpAny_bind (wpAny_rule (wpAny_bind (wpAny_setField ho hd (by simp) ?_)))
  refine stop_hot (s := { s with heap := s.heap.update it (Obj.mapFields (·.setIfInBounds 0 .none)) }) (hot_keep (A := A) hot fun o e => ?_) fun h' e k z => ?_
  · show (s.heap.update it _).get? x1 = some o
    rw [Heap.get?_update_other _ _ ne.symm]
    exact e
  · obtain ⟨oe, e1, e2⟩ := z
    refine wpAny_bind (wpAny_isInstance (T := "StopIteration") (b := true) ⟨oe, e1, e2⟩ isSubtype_stop (wpAny_pure (hQ _ fun b o hb q => k b o ?_)))
    show (s.heap.update it _).get? b = some o
    rw [Heap.get?_update_other _ _ (Ne.symm hb)]
    exact q
end
end Qv
end
section
set_option Elab.async false
set_option linter.all false
set_option autoImplicit false
set_option maxRecDepth 100000
set_option maxHeartbeats 1000000
/-! Q20: comprehensions once more: in any context that the walk serves; what the block knows of its context. -/
namespace Qv
open PySem PySem.Spec PyProof.Rows L2 HotX
/-- a walk in contexts of the kind B -/
structure TurnB (B : Cx → Prop) (P : Program) (w : World) (K : PySem.W.Frag) (tg : Expr) (J : It) (fp : List Addr) (it : Addr) (tn : Nat → Heap → Prop) : Prop where
  obj : ∀ i h, tn i h → ∀ b ∈ fp, ∃ o, h.get? b = some o ∧ ∀ v, o.data ≠ .cell v
  keep : ∀ i h h', tn i h → (∀ b ∈ fp, ∀ o, h.get? b = some o → h'.get? b = some o) → tn i h'
  item : ∀ (X : Cx), X.prog = P → X.w = w → X.K = K → B X → ∀ (i : Nat) (pins : List (Addr × Obj)) (s : Shared) (σ : Sg) (H : Hp) (E : Value → Shared → Prop), Inv X pins σ H s → (∀ b ∈ fp, FpOk X pins H b) → tn i s.heap → J.go i H →
    wpAny (model P w) X.A (pyNext (.ref it)) (fun r s1 => ∃ u, r = some u ∧
      wpAny (model P w) X.A (letOwnedTupleGo tg (.ref it) u) (fun _ s2 => ∃ x H', Inv X pins σ H' s2 ∧ RelV x u ∧ J.yld i H x H' ∧ tn (i + 1) s2.heap ∧ ∀ b ∈ fp, H' b = none) E s1) E s
  done : ∀ (X : Cx), X.prog = P → X.w = w → X.K = K → B X → ∀ (i : Nat) (pins : List (Addr × Obj)) (s : Shared) (σ : Sg) (H : Hp) (E : Value → Shared → Prop), Inv X pins σ H s → (∀ b ∈ fp, FpOk X pins H b) → tn i s.heap → J.stop i H →
    wpAny (model P w) X.A (pyNext (.ref it)) (fun r s1 => r = none ∧ Inv X pins σ H s1) E s
  self : ∀ (A : Around) (i : Nat) (s : Shared) (Q : Value → Shared → Prop) (E : Value → Shared → Prop), tn i s.heap → Q (.ref it) s → wpAny (model P w) A (pyIter (.ref it)) Q E s
def PIEB (B : Cx → Prop) (X : Cx) (pins : List (Addr × Obj)) (σ : Sg) (tg : Expr) (R : It → Hp → Prop) (itv : Value) (s2 : Shared) : Prop :=
  ∃ (it : Addr) (fp : List Addr) (tn : Nat → Heap → Prop) (J : It) (H' : Hp), itv = .ref it ∧ Inv X pins σ H' s2 ∧ TurnB B X.prog X.w X.K tg J fp it tn ∧ tn 0 s2.heap ∧ (∀ b ∈ fp, FpOk X pins H' b) ∧ R J H'
structure PIB (B : Cx → Prop) (X : Cx) (tg iter : Expr) (wi : TI) : Prop where
  run : ∀ (pins : List (Addr × Obj)) (s : Shared) (σ : Sg) (H : Hp) (R : It → Hp → Prop), Inv X pins σ H s → wi σ H R →
    wpAny (model X.prog X.w) X.A (eval iter X.env) (fun v s1 => wpAny (model X.prog X.w) X.A (pyIter v) (PIEB B X pins σ tg R) X.xe s1) X.xe s
theorem pib_of {B : Cx → Prop} {X : Cx} {tg iter : Expr} {wi : TI} (hB : ∀ Y, B Y → Y.calm = true) (h : PI X tg iter wi) : PIB B X tg iter wi := by
  refine ⟨fun pins s σ H R I q => thn (h.run pins s σ H R I q) fun v s1 h1 => thn h1 fun itv s2 h2 => ?_⟩
  obtain ⟨it, fp, tn, J, H', e, I2, T, st, f, r⟩ := h2
  exact ⟨it, fp, tn, J, H', e, I2, ⟨T.obj, T.keep, fun Y a b c d => T.item Y a b c (hB Y d), fun Y a b c d => T.done Y a b c (hB Y d), T.self⟩, st, f, r⟩
/-- a block's environment -/
abbrev blkE (X : Cx) (scope : Scope) (s : Shared) : Env := compEnvC scope (cellsFrom (s.heap.objs.size + 1) scope.names (cloFrom X.env.cells scope.names [])) s.heap.objs.size X.env
section
variable {B : Cx → Prop} {X : Cx}
theorem lc_any {pins : List (Addr × Obj)} {s : Shared} {σ : Sg} {H : Hp} {Q : VK} {elt tg iter : Expr} {ifs : List Expr} {scope : Scope} {own : List (Str × Nat)} {pos pos' : Pos} {wi : TI} {g : TG} {tt : TT} {te : TE} {use : Option (Value → Sem Unit)} {Qf : Value → Shared → Prop}
    (hB : ∀ (pins : List (Addr × Obj)) (σ : Sg) (H : Hp) (s : Shared) (fp : List Addr), Inv X pins σ H s → (∀ b ∈ fp, FpOk X pins H b) → B (X.blk s H scope (blkE X scope s) fp))
    (hN : X.N.Nodup) (I : Inv X pins σ H s) (hi : PIB B X tg iter wi) (ok : BlkOk X.N X.env.scope scope own)
    (hg : ∀ (s : Shared) (H : Hp) (fp : List Addr), B (X.blk s H scope (blkE X scope s) fp) → PG (X.blk s H scope (blkE X scope s) fp) tg g)
    (ht : ∀ (s : Shared) (H : Hp) (fp : List Addr), B (X.blk s H scope (blkE X scope s) fp) → PTs (X.blk s H scope (blkE X scope s) fp) ifs tt)
    (he : ∀ (s : Shared) (H : Hp) (fp : List Addr), B (X.blk s H scope (blkE X scope s) fp) → PE (X.blk s H scope (blkE X scope s) fp) elt te) (hs : ∀ x, foldedSetIterable iter X.env x = pure x)
    (h : tLc wi g tt te (own.map (·.2)) σ H Q)
    (hRR : ∀ D C s' m H', Inv X pins σ H' s' → Q (.ref D) H' → s'.heap.Ns C m → FpOk X pins H' C → compPost (model X.prog X.w) X.A X.xe use Qf (.ref D) C (.ok .next) s') :
    wpAny (model X.prog X.w) X.A (comprehension (.ListComp elt [⟨tg, iter, ifs, 0⟩] scope pos) scope X.env pos' (newList []) false (eval iter X.env) use) Qf X.xe s := by
  have hfree : ∀ y ∈ scope.names, y.2 = .free → ∃ c, X.env.cells.lookup y.1 = some c := fun y hy e => (ok.free y hy e).elim (fun k => I.ok.has _ (.inl k)) fun k => I.ok.has _ (.inr k)
  refine wpAny_comprehension_free (use := use) rfl hs (closure_ok hfree) ok.kind (fun y hy e => by rw [ok.uniq y hy, e]) (thn (hi.run pins s σ H _ I h) fun xv s1 hx => thn hx fun itv s2 h2 => ?_)
  obtain ⟨it, fp, tn, J, H2, e, I2, T, st2, f2, q⟩ := h2
  subst e
  refine wpAny_newObj_type (newEnv_comp ?_) (by show 0 ≤ sizeLine; decide)
  generalize hD : s2.heap.objs.size = D
  have hDn : H2 D = none := I2.hok.fresh (Nat.le_of_eq hD)
  obtain ⟨W, ⟨m0, w0⟩, turn⟩ := q D hDn
  generalize hs3 : ({ s2 with heap := s2.heap.push { cls := .type "list", data := .seq ([] : List Value).toArray } } : Shared) = s3
  have I3 : Inv X pins σ (upd H2 D (.lst [])) s3 := by
    subst hs3
    refine I2.laid (t' := s2.toks) (fun b o e => Heap.get?_push_of_some _ e) (Nat.le_of_eq hD) ⟨Nat.zero_le _, [], 0, .nil, ?_⟩
    rw [← hD]
    exact Heap.get?_push_size _ rfl
  have h3 : s3.heap = s2.heap.push { cls := .type "list", data := .seq ([] : List Value).toArray } := by rw [← hs3]
  have f3 : ∀ b ∈ fp, FpOk X pins (upd H2 D (.lst [])) b ∧ b < s3.heap.objs.size := fun b hb => by
    obtain ⟨o, e, _⟩ := T.obj _ _ st2 b hb
    have hlt := Heap.lt_size e
    refine ⟨⟨?_, (f2 b hb).2⟩, by rw [h3, Heap.size_push]; exact Nat.lt_succ_of_lt hlt⟩
    rw [upd_ne (by rw [← hD]; exact Nat.ne_of_lt hlt)]
    exact (f2 b hb).1
  have st3 : tn 0 s3.heap := T.keep _ _ _ st2 fun b _ o e => by rw [h3]; exact Heap.get?_push_of_some _ e
  have I4 := block_start I3 ok hN f3
  have bb := hB pins σ _ s3 fp I3 fun b hb => (f3 b hb).1
  have pg := hg s3 (upd H2 D (.lst [])) fp bb
  have pt := ht s3 (upd H2 D (.lst [])) fp bb
  have pe := he s3 (upd H2 D (.lst [])) fp bb
  show codeAny _ _ (.compStart (.ListComp elt [⟨tg, iter, ifs, 0⟩] scope pos) 0 (.ref it) (.ref D) (blkE X scope s3)) (compPost (model X.prog X.w) X.A X.xe use Qf (.ref D) s3.heap.objs.size) { s3 with heap := pushCells (s3.heap.push { cls := .type "dict", data := .dict #[] }) scope.names }
  have nfp : ∀ b ∈ fp, (upd H2 D (.lst [])) b = none := fun b hb => (f3 b hb).1.1
  have I4 : Inv (X.blk s3 (upd H2 D (.lst [])) scope (blkE X scope s3) fp) [] (wipe σ (own.map (·.2))) (upd H2 D (.lst [])) { s3 with heap := pushCells (s3.heap.push { cls := .type "dict", data := .dict #[] }) scope.names } := I4
  generalize hce : blkE X scope s3 = ce at I4 bb pg pt pe ⊢
  have cL : ce.locals = s3.heap.objs.size := by subst hce; rfl
  generalize hH3 : upd H2 D (.lst []) = H3 at I3 I4 bb pg pt pe w0 nfp f3
  generalize hs4 : ({ s3 with heap := pushCells (s3.heap.push { cls := .type "dict", data := .dict #[] }) scope.names } : Shared) = s4 at I4 ⊢
  have st4 : tn 0 s4.heap := T.keep _ _ _ st3 fun b _ o e => by rw [← hs4]; exact pushCells_keeps _ _ _ _ (Heap.get?_push_of_some _ e)
  have stat : ∀ {σ' : Sg} {H' : Hp} {s' : Shared}, Inv (X.blk s3 H3 scope ce fp) [] σ' H' s' → (∀ b ∈ fp, H' b = none) → ∀ b ∈ fp, FpOk (X.blk s3 H3 scope ce fp) [] H' b := fun {σ' H' s'} I' hn b hb =>
    ⟨hn b hb, (I'.ok.exf b hb).1, I'.ok.exfs b hb, .inl hb, fun x c e => (I'.ok.exf b hb).2 x c e, fun p hp => absurd (show p ∈ ([] : List (Addr × Obj)) ++ [] from hp) (by simp)⟩
  have loop : codeAny (model X.prog X.w) X.A (.compLoop (.ListComp elt [⟨tg, iter, ifs, 0⟩] scope pos) 0 (.ref it) (.ref D) ce) (compPost (model X.prog X.w) X.A X.xe use Qf (.ref D) s3.heap.objs.size) s4 := by
    refine compLoop_any (fun n s' => ∃ i H', Inv (X.blk s3 H3 scope ce fp) [] (wipe σ (own.map (·.2))) H' s' ∧ tn i s'.heap ∧ (∀ b ∈ fp, H' b = none) ∧ W i n H') ?_ m0 ⟨0, H3, I4, st4, nfp, w0⟩
    rintro n s5 ⟨i, H5, I5, st5, n5, w5⟩
    rcases turn i n H5 w5 with ⟨stop, qq⟩ | ⟨go, Nx, hNx, step⟩
    · refine thnF (T.done (X.blk s3 H3 scope ce fp) rfl rfl rfl bb i [] s5 _ H5 (fun _ _ => False) I5 (stat I5 n5) st5 stop) fun r s6 ⟨hr, I6⟩ => ?_
      subst hr
      have I7 : Inv X pins σ H5 s6 := I3.call' (ch := fp) I6.os I6.base I6.hok I6.bare fun b hb => ⟨(f3 b hb).1.2.2.2.1, (f3 b hb).1.2.1, (f3 b hb).1.2.2.2.2.1, (f3 b hb).1.2.2.2.2.2⟩
      have nC : H5 s3.heap.objs.size = none := by rw [← cL]; exact I6.free
      obtain ⟨m, hn, _⟩ := I6.loc
      have hn : s6.heap.Ns ce.locals m := hn
      rw [cL] at hn
      exact hRR D s3.heap.objs.size s6 m H5 I7 qq hn (I3.fpOk (Nat.le_refl _) nC)
    · refine thnF (T.item (X.blk s3 H3 scope ce fp) rfl rfl rfl bb i [] s5 _ H5 (fun _ _ => False) I5 (stat I5 n5) st5 go) fun r s6 ⟨u, hr, h6⟩ => ?_
      subst hr
      refine thnF h6 fun _ s7 ⟨x, H7, I7, r7, y7, st7, n7⟩ => ?_
      have I7' := I7.pinned (stat I7 n7) (T.obj _ _ st7)
      refine thnF (pg.run _ s7 _ H7 x u _ I7' r7 (step x H7 y7)) fun _ s8 ⟨σ8, H8, I8, hw8, q8⟩ => ?_
      refine thnF (pt.run _ s8 σ8 H8 _ I8 q8) fun b s9 ⟨H9, I9, q9⟩ => ?_
      have fin : ∀ {s' : Shared} {H' : Hp}, Inv (X.blk s3 H3 scope ce fp) ([] ++ pinsAt fp s7.heap) σ8 H' s' → Nx H' → ∃ m, m < n ∧ ∃ i H', Inv (X.blk s3 H3 scope ce fp) [] (wipe σ (own.map (·.2))) H' s' ∧ tn i s'.heap ∧ (∀ b ∈ fp, H' b = none) ∧ W i m H' := fun {s' H'} I' nx => by
        obtain ⟨m', hm, w'⟩ := hNx H' nx
        have pin' : ∀ b ∈ fp, ∀ o, s7.heap.get? b = some o → s'.heap.get? b = some o ∧ H' b = none := fun b hb o e =>
          let z := I'.pin (b, o) (List.mem_append_right _ (List.mem_append_right _ (mem_pinsAt hb e)))
          ⟨z.1, z.2.1⟩
        refine ⟨m', hm, i + 1, H', (I'.unpinned (pins := [])).weak (by rw [← hw8, wipe_length]) (fun j v e => ?_), T.keep _ _ _ st7 fun b hb o e => (pin' b hb o e).1, fun b hb => ?_, w'⟩
        · rw [← hw8] at e
          exact (wipe_some e).1
        · obtain ⟨o, e, _⟩ := T.obj _ _ st7 b hb
          exact (pin' b hb o e).2
      cases b with
      | false =>
        simp only [Bool.false_eq_true, if_false] at q9 ⊢
        exact fin I9 q9
      | true =>
        simp only [if_true] at q9 ⊢
        refine thnF (pe.run _ s9 σ8 H9 _ I9 q9) fun z s10 ⟨yv, H10, I10, r10, acc, hD10, hz10, nx⟩ => ?_
        exact app_ok (X := X.blk s3 H3 scope ce fp) I10 hD10 hz10 r10 fun s11 I11 => fin I11 nx
  exact codeAny_compStart_list loop (T.self X.A 0 _ _ _ st4 loop)
theorem pe_lcB {elt tg iter : Expr} {ifs : List Expr} {scope : Scope} {own : List (Str × Nat)} {pos : Pos} {wi : TI} {g : TG} {tt : TT} {te : TE}
    (hB : ∀ (pins : List (Addr × Obj)) (σ : Sg) (H : Hp) (s : Shared) (fp : List Addr), Inv X pins σ H s → (∀ b ∈ fp, FpOk X pins H b) → B (X.blk s H scope (blkE X scope s) fp))
    (hN : X.N.Nodup) (hi : PIB B X tg iter wi) (ok : BlkOk X.N X.env.scope scope own)
    (hg : ∀ (s : Shared) (H : Hp) (fp : List Addr), B (X.blk s H scope (blkE X scope s) fp) → PG (X.blk s H scope (blkE X scope s) fp) tg g)
    (ht : ∀ (s : Shared) (H : Hp) (fp : List Addr), B (X.blk s H scope (blkE X scope s) fp) → PTs (X.blk s H scope (blkE X scope s) fp) ifs tt)
    (he : ∀ (s : Shared) (H : Hp) (fp : List Addr), B (X.blk s H scope (blkE X scope s) fp) → PE (X.blk s H scope (blkE X scope s) fp) elt te) (hs : ∀ x, foldedSetIterable iter X.env x = pure x) :
    PE X (.ListComp elt [⟨tg, iter, ifs, 0⟩] scope pos) (tLc wi g tt te (own.map (·.2))) := by
  refine ⟨fun pins s σ H Q I h => ?_⟩
  rw [eval_ListComp]
  refine lc_any hB hN I hi ok hg ht he hs h fun D C s' m H' I' q hn f => ⟨m, hn, fun h'' sb => ?_⟩
  obtain ⟨f0, f1, f2, f3, f4, f5⟩ := f
  exact ⟨.ref D, H', I'.turned (t' := s'.toks) (fun b o hb e => (sb.2 b hb).trans e) f0 f1 f3 f4 f5, rfl, q⟩
end
/-- calm, and its cells are as CB says -/
def BCalm (X : Cx) : Prop := X.calm = true ∧ CB X
theorem bcalm_blk {X : Cx} {scope : Scope} {own : List (Str × Nat)} (ok : BlkOk X.N X.env.scope scope own) (hc : X.calm = true) (cb : X.Ok → CB X) (pins : List (Addr × Obj)) (σ : Sg) (H : Hp) (s : Shared) (fp : List Addr) (I : Inv X pins σ H s) : BCalm (X.blk s H scope (blkE X scope s) fp) := by
  refine ⟨hc, fun x c e => ?_⟩
  have e : (cellsFrom (s.heap.objs.size + 1) scope.names (cloFrom X.env.cells scope.names [])).lookup x = some c := e
  have hfree : ∀ y ∈ scope.names, y.2 = .free → ∃ c, X.env.cells.lookup y.1 = some c := fun y hy e => (ok.free y hy e).elim (fun k => I.ok.has _ (.inl k)) fun k => I.ok.has _ (.inr k)
  rw [← Heap.size_push s.heap { cls := .type "dict", data := .dict #[] }] at e
  have fs : ∀ b, b ∈ frs X.stack → b = X.env.locals ∨ b ∈ X.fs := fun b hb => List.mem_cons.mp (I.stkSub b hb)
  rcases cells_mem (PySem.mem_of_lookup e) with hm | ⟨_, h2, _⟩
  · rcases cloFrom_mem hm with hm | ⟨h1, h2⟩
    · cases hm
    · obtain ⟨c1, hc⟩ := hfree _ h1 rfl
      have hc : X.env.cells.lookup x = some c1 := hc
      rw [hc] at h2
      have h2 : c = c1 := h2
      rw [← h2] at hc
      obtain ⟨a, b⟩ := cb I.ok x c hc
      exact ⟨a, fun z => (fs c z).elim (fun z => I.cne x c hc z) b⟩
  · rw [Heap.size_push] at h2
    have h3 : s.heap.objs.size ≤ c := Nat.le_of_succ_le h2
    refine ⟨?_, fun z => ?_⟩
    · cases q : X.base.get? c with
      | none => rfl
      | some o => exact absurd (Nat.lt_of_lt_of_le (Heap.lt_size q) (Nat.le_trans (Nat.le_trans I.ok.bsz I.sz) h3)) (Nat.lt_irrefl _)
    · rcases fs c z with z | z
      · exact absurd (Nat.lt_of_lt_of_le (by rw [z]; exact I.lt) h3) (Nat.lt_irrefl _)
      · exact I.nofs h3 z
end Qv
end
section
set_option Elab.async false
set_option linter.all false
set_option autoImplicit false
set_option maxRecDepth 100000
set_option maxHeartbeats 1000000
/-! Q21: comprehensions in any context, names of the module, texts, the class of the handled exception. -/
namespace Qv
open PySem PySem.Spec PyProof.Rows L2 HotX
section
variable {bs : Bs} {Z : Nm} {W : WX} {F : FT} {X : Cx} {B : Cx → Prop}
theorem s_lcB {elt it cond : E} {tg : Tg} {own : List (Str × Nat)} {te ie eltE : Expr} {ifs : List Expr} {scope : Scope} {pos : Pos}
    (hB : ∀ (pins : List (Addr × Obj)) (σ : Sg) (H : Hp) (s : Shared) (fp : List Addr), Inv X pins σ H s → (∀ b ∈ fp, FpOk X pins H b) → B (X.blk s H scope (blkE X scope s) fp))
    (hN : X.N.Nodup) (hi : PIB B X te ie (rdI Z W F it)) (ok : BlkOk X.N X.env.scope scope own) (hsub : ∀ j, j ∈ tg.slots → j ∈ own.map (·.2))
    (hg : ∀ (s : Shared) (H : Hp) (fp : List Addr), B (X.blk s H scope (blkE X scope s) fp) → PG (X.blk s H scope (blkE X scope s) fp) te (rdT Z tg))
    (ht : ∀ (s : Shared) (H : Hp) (fp : List Addr), B (X.blk s H scope (blkE X scope s) fp) → PTs (X.blk s H scope (blkE X scope s) fp) ifs (rd Z (fun _ _ _ _ => False) (fun _ => rEq Bool) (condB cond (dE F cond))))
    (he : ∀ (s : Shared) (H : Hp) (fp : List Addr), B (X.blk s H scope (blkE X scope s) fp) → PE (X.blk s H scope (blkE X scope s) fp) eltE (rdE Z (fun _ _ _ _ => False) F elt))
    (hs : ∀ x, foldedSetIterable ie X.env x = pure x) : PE X (.ListComp eltE [⟨te, ie, ifs, 0⟩] scope pos) (rdE Z W F (.comp elt tg it cond (own.map (·.2)))) :=
  (pe_lcB hB hN hi ok hg ht (fun s H fp b => PE.frz (he s H fp b)) hs).impQ fun σ H Q h => s_comp hsub σ H Q h
theorem ps_setLcB {i : Nat} {y : Str} {py : Pos} {elt tg iter : Expr} {ifs : List Expr} {scope : Scope} {own : List (Str × Nat)} {pos spos : Pos} {wi : TI} {g : TG} {tt : TT} {te : TE}
    (hB : ∀ (pins : List (Addr × Obj)) (σ : Sg) (H : Hp) (s : Shared) (fp : List Addr), Inv X pins σ H s → (∀ b ∈ fp, FpOk X pins H b) → B (X.blk s H scope (blkE X scope s) fp))
    (hN : X.N.Nodup) (hy : X.N[i]? = some y) (hyl : X.env.scope.names.lookup y = some .local)
    (hsw : swapsWith (.ListComp elt [⟨tg, iter, ifs, 0⟩] scope pos) (some (.Name y py)) spos.line X.env = pure true) (hi : PIB B X tg iter wi) (ok : BlkOk X.N X.env.scope scope own)
    (hg : ∀ (s : Shared) (H : Hp) (fp : List Addr), B (X.blk s H scope (blkE X scope s) fp) → PG (X.blk s H scope (blkE X scope s) fp) tg g)
    (ht : ∀ (s : Shared) (H : Hp) (fp : List Addr), B (X.blk s H scope (blkE X scope s) fp) → PTs (X.blk s H scope (blkE X scope s) fp) ifs tt)
    (he : ∀ (s : Shared) (H : Hp) (fp : List Addr), B (X.blk s H scope (blkE X scope s) fp) → PE (X.blk s H scope (blkE X scope s) fp) elt te) (hs : ∀ x, foldedSetIterable iter X.env x = pure x) :
    PS X (.Assign [.Name y py] (.ListComp elt [⟨tg, iter, ifs, 0⟩] scope pos) spos) (tAsg (tLc wi g tt te (own.map (·.2))) (gName i)) := by
  refine ⟨fun pins s σ H D I h => ?_⟩
  rw [exec_Assign_Name_used _ _ _ _ hsw]
  refine wpAny_bind (wpAny_standAt (wpAny_bind ?_))
  show wpAny _ X.A (do let _ ← comprehension (.ListComp elt [⟨tg, iter, ifs, 0⟩] scope pos) scope X.env (firstIterPos [⟨tg, iter, ifs, 0⟩] pos) (newList []) false (eval iter X.env) (some (assign (.Name y py) X.env))) _ _ s
  have h : tLc wi g tt te (own.map (·.2)) σ H (fun x H1 => gName i x σ H1 D.nx) := h
  refine wpAny_bind (thn (lc_any (Qf := fun _ s' => SP X pins D .next s') hB hN I hi ok hg ht he hs h fun L C s' m H' I' q hn f => ?_) fun _ s' hq => wpAny_pure (wpAny_pure hq))
  show wpAny _ _ (assign (.Name y py) X.env (.ref L)) _ _ _
  refine wpAny_assign_Name (store_ok2 (v := V.ref L) I' hN hy (.inl hyl) rfl (fun s2 I2 ⟨a, sb, ha⟩ => ?_) (.inr hyl))
  obtain ⟨f0, f1, f2, f3, f4, f5⟩ := f
  have haC : C ≠ a := ha.elim (fun z => by rw [z]; exact f1) fun z e => f4 y a z e.symm
  refine ⟨m, hn.sameBut sb haC, fun h3 sb3 => ?_⟩
  exact ⟨_, H', I2.turned (t' := s2.toks) (fun b o hb e => (sb3.2 b hb).trans e) f0 f1 f3 f4 f5, q⟩
theorem st_asgCB {i : Nat} {y : Str} {py spos : Pos} {elt it cond : E} {tg : Tg} {own : List (Str × Nat)} {te ie eltE : Expr} {ifs : List Expr} {scope : Scope} {pos : Pos} (hz : bs.lp = none ∨ i ≠ 0)
    (hB : ∀ (pins : List (Addr × Obj)) (σ : Sg) (H : Hp) (s : Shared) (fp : List Addr), Inv X pins σ H s → (∀ b ∈ fp, FpOk X pins H b) → B (X.blk s H scope (blkE X scope s) fp))
    (hN : X.N.Nodup) (hy : X.N[i]? = some y) (hyl : X.env.scope.names.lookup y = some .local)
    (hsw : swapsWith (.ListComp eltE [⟨te, ie, ifs, 0⟩] scope pos) (some (.Name y py)) spos.line X.env = pure true) (hi : PIB B X te ie (rdI Z W F it)) (ok : BlkOk X.N X.env.scope scope own)
    (hsub : ∀ j, j ∈ tg.slots → j ∈ own.map (·.2))
    (hg : ∀ (s : Shared) (H : Hp) (fp : List Addr), B (X.blk s H scope (blkE X scope s) fp) → PG (X.blk s H scope (blkE X scope s) fp) te (rdT Z tg))
    (ht : ∀ (s : Shared) (H : Hp) (fp : List Addr), B (X.blk s H scope (blkE X scope s) fp) → PTs (X.blk s H scope (blkE X scope s) fp) ifs (rd Z (fun _ _ _ _ => False) (fun _ => rEq Bool) (condB cond (dE F cond))))
    (he : ∀ (s : Shared) (H : Hp) (fp : List Addr), B (X.blk s H scope (blkE X scope s) fp) → PE (X.blk s H scope (blkE X scope s) fp) eltE (rdE Z (fun _ _ _ _ => False) F elt))
    (hs : ∀ x, foldedSetIterable ie X.env x = pure x) : PS X (.Assign [.Name y py] (.ListComp eltE [⟨te, ie, ifs, 0⟩] scope pos) spos) (rdS bs Z W F (.asg i (.comp elt tg it cond (own.map (·.2))))) :=
  (ps_setLcB hB hN hy hyl hsw hi ok hg ht (fun s H fp b => PE.frz (he s H fp b)) hs).impQ fun D σ H h => st_asgC_rd hz hsub h

/-! ### names of the module -/
theorem pe_mod {x : Str} {p : Pos} {u : Value} {v : V} (hg : Gl X x) (hm : X.mg x = some u) (r : RelV v u) (hd : (x == ("__debug__" : Str)) = false) : PE X (.Name x p) (tC v) :=
  ⟨fun pins s σ H Q I h => ld_glob I hg hm ⟨v, H, I, r, h⟩ hd⟩
theorem s_mod {x : Str} {p : Pos} {u : Value} {v : V} {c : PV} (hg : Gl X x) (hm : X.mg x = some u) (r : RelV v u) (hc : ∀ ρ H, Rp Z ρ H c v) (hd : (x == ("__debug__" : Str)) = false) : PE X (.Name x p) (rdE Z W F (.cst c)) := by
  refine (pe_mod hg hm r hd).impQ fun σ H Q h => ?_
  obtain ⟨ρ, s, m, h⟩ := h
  exact h ρ H v (.refl m) (hc ρ H)
theorem s_fn {x : Str} {p : Pos} {f : Nat} (hg : Gl X x) (hm : X.mg x = some (.ref (Z.fa f))) (hd : (x == ("__debug__" : Str)) = false) : PE X (.Name x p) (rdE Z W F (.cst (.fn f))) :=
  s_mod hg hm (v := .ref (Z.fa f)) rfl (fun _ _ => .fn f) hd

/-! ### texts -/
theorem strs_of {ρ : List Addr} {H : Hp} : ∀ {xs : List PV} {vs : List V} {ys : List Str}, Rps Z ρ H xs vs → strL xs = some ys → vs = ys.map V.str
  | [], _, ys, .nil, e => by cases e; rfl
  | x :: xs, _, ys, .cons h r, e => by
    cases x with
    | str i =>
      cases q : strL xs with
      | none => simp [strL, q] at e
      | some ms =>
        simp [strL, q] at e
        subst e
        cases h
        rw [strs_of r q]
        rfl
    | _ => simp [strL] at e
theorem strs_mk {ρ : List Addr} {H : Hp} : ∀ (ys : List Str), Rps Z ρ H (ys.map PV.str) (ys.map V.str)
  | [] => .nil
  | y :: ys => .cons (.str y) (strs_mk ys)
theorem s_tx {a b : E} {k : Tx} {o e : Expr} {name : Str} {id : String} {apos pos : Pos} {r : V → List V → Hp → VK → Prop} (slot : PySem.Slot "str" name id) (ty : typeOf (.builtin id) = pure (.type "method_descriptor")) (rule : MtR X id r) (ha : PE X o (rdE Z W F a)) (hb : PE X e (rdE Z W F b)) (hp : plainE e = true)
    (hbase : attributeBase o name X.env (eval o X.env) = eval o X.env) (hline : (apos.endLine == pos.line) = true)
    (hr : ∀ (ρ : List Addr) (z : Str) (v : PV) (y : V) (H : Hp) (w : RV) (Q : VK), Rd1 Z ρ H v y → opTx k z v = some w → Res Z ρ H w Q → r (.str z) [y] H Q) :
    PE X (.Call (.Attribute o name apos) [e] [] pos) (rdE Z W F (.tx k a b)) := by
  refine (pe_m1 slot ty rule ha hb (star_cons hp) hbase hline).impQ fun σ H Q h => ?_
  obtain ⟨ρ, s, m, h⟩ := h
  have h : Pst Z W (rRV Z σ) ρ s σ H ((dE F a s).bind (Qv.deref · >>= fun x => asStr x >>= fun z => dE F b >>= fun y => Qv.deref y >>= fun y => M.ofO (opTx k z y))) Q := h
  refine ⟨ρ, s, m, Pst.bind (rel2 := rRV Z σ) m h fun ρ1 s1 H1 rx x e n kx q => ?_⟩
  obtain ⟨v, h1, q2⟩ := Pst.deref n.sim kx (q.later m n)
  cases v with
  | str z =>
    have h1 := h1.str
    subst h1
    have q2 : Pst Z W (rRV Z σ) ρ1 s1 σ H1 ((dE F b s1).bind (Qv.deref · >>= fun y => M.ofO (opTx k z y))) Q := q2
    refine ⟨⟨z, rfl⟩, ρ1, s1, n.sim, Pst.bind (rel2 := rRV Z σ) n.sim q2 fun ρ2 s2 H2 ry y e2 n2 ky q3 => ?_⟩
    obtain ⟨u, h2, q4⟩ := Pst.deref n2.sim ky (q3.later n.sim n2)
    obtain ⟨w, e3, q5⟩ := Pst.res n2.sim q4
    exact hr ρ2 z u y H2 w Q h2 e3 q5
  | _ => exact False.elim q2
theorem s_split {a b : E} {o e : Expr} {apos pos : Pos} (ha : PE X o (rdE Z W F a)) (hb : PE X e (rdE Z W F b)) (hp : plainE e = true) (hbase : attributeBase o "split" X.env (eval o X.env) = eval o X.env) (hline : (apos.endLine == pos.line) = true) :
    PE X (.Call (.Attribute o "split" apos) [e] [] pos) (rdE Z W F (.tx .split a b)) := by
  refine s_tx PySem.F.slot_str_split PySem.F.type_str_split mt_split ha hb hp hbase hline fun ρ z v y H w Q h1 h2 q => ?_
  cases v with
  | str c =>
    have h1 := h1.str
    subst h1
    have h2 : (if !(c.length == 0) && lenOk z.length then some (RV.own (.lst ((Txt.split z c).map .str))) else none) = some w := h2
    split at h2
    · rename_i hk
      cases h2
      rw [Bool.and_eq_true, Bool.not_eq_true'] at hk
      refine ⟨z, c, rfl, rfl, hk.1, ?_, fun p hp => q _ (.ref p) (same_upd hp) ⟨p, rfl, .lst upd_same (strs_mk _), hp⟩⟩
      have := of_decide_eq_true hk.2
      rw [sizeLine_eq]
      omega
    · cases h2
  | _ => cases h2
theorem s_join {a b : E} {o e : Expr} {apos pos : Pos} (ha : PE X o (rdE Z W F a)) (hb : PE X e (rdE Z W F b)) (hp : plainE e = true) (hbase : attributeBase o "join" X.env (eval o X.env) = eval o X.env) (hline : (apos.endLine == pos.line) = true) :
    PE X (.Call (.Attribute o "join" apos) [e] [] pos) (rdE Z W F (.tx .join a b)) := by
  refine s_tx PySem.F.slot_str_join PySem.F.type_str_join mt_join ha hb hp hbase hline fun ρ z v y H w Q h1 h2 q => ?_
  cases v with
  | lst xs =>
    obtain ⟨p, vs, rfl, hp, rp⟩ := h1.lst
    have h2 : ((strL xs).bind fun ys => if decide ((ys.map (·.length)).sum + ys.length * z.length ≤ 16777216) then some (RV.fr (.str (Txt.join z ys))) else none) = some w := h2
    cases e : strL xs with
    | none => rw [e] at h2; cases h2
    | some ys =>
      rw [e] at h2
      have h2 : (if decide ((ys.map (·.length)).sum + ys.length * z.length ≤ 16777216) then some (RV.fr (.str (Txt.join z ys))) else none) = some w := h2
      split at h2
      · rename_i hk
        cases h2
        have ev := strs_of rp e
        subst ev
        exact ⟨z, p, ys, rfl, rfl, .inl (.inl hp), of_decide_eq_true hk, q.fr0 (.str _)⟩
      · cases h2
  | _ => cases h2

/-! ### the class of the handled exception -/
/-- the context bears the handled exception, as Z tells it -/
def HotE (X : Cx) (Z : Nm) : Prop := ∃ a c oe vs, Z.xa = some (a, c) ∧ (a, oe) ∈ X.pn ∧ Zc (.ref (Z.ca c)) none oe ∧ oe.data = .fields vs ∧ vs[2]? = some .none ∧ X.A.handled = some (.ref a)
theorem HotE.hot (h : HotE X Z) : L2H.HotC X := by
  obtain ⟨a, c, oe, vs, h1, h2, h3, h4, h5, h6⟩ := h
  exact ⟨(a, oe), ⟨h6, vs, h4, h5⟩, h2⟩
/-- what the classes say, so that isinstance asks rightly -/
def ClsX (K : PySem.W.Frag) (Z : Nm) (k : Nat) : Prop := ∀ c a, Z.xa = some (a, c) → ExcC K (Z.ca c) ∧ PySem.W.kitOne K (.ref (Z.ca c)) (.ref (Z.ca k)) = some (c == k)
def rIsX (Z : Nm) (k : Nat) : List V → Hp → VK → Prop := fun xs H Q => ∃ a c, Z.xa = some (a, c) ∧ xs = [.ref a, .ref (Z.ca k)] ∧ Q (.bl (c == k)) H
theorem call_isX {k : Nat} (hx : HotE X Z) (hk : ClsX X.K Z k) : CallR X (.builtin "isinstance") (rIsX Z k) := by
  intro pins s σ H xs us Q I r h
  obtain ⟨a, c, h1, rfl, q⟩ := h
  obtain ⟨a', c', oe, vs, e1, e2, e3, e4, e5, e6⟩ := hx
  rw [h1] at e1
  cases e1
  obtain ⟨C, ek⟩ := hk c a h1
  cases r with
  | cons rx rr =>
    cases rr with
    | cons rt rr =>
      cases rr
      cases rx
      cases rt
      have J : PySem.W.InstAt s.heap a oe (Z.ca c) none := by
        obtain ⟨oc, od, oda, osl⟩ := oe
        obtain ⟨z1, z2⟩ := e3
        dsimp only at z1 z2 e4
        subst z1 z2 e4
        exact ⟨(I.pin _ (List.mem_append.mpr (.inl e2))).1, rfl, rfl, trivial⟩
      exact PySem.W.kia_one (PySem.W.handS_kitx_exc C.hg C.hk C.hs C.hd C.ha C.hn C.ht C.hm) I.kIn J ek (fun z => nomatch z) fun tk => ⟨.bl _, H, I.kept (t' := tk) fun _ _ z => z, rfl, q⟩
theorem s_isX {k : Nat} {a : E} {e : Expr} {y : Str} {p p2 pos : Pos} (hx : HotE X Z) (hk : ClsX X.K Z k) (hg : Gl X "isinstance") (hm : X.mg "isinstance" = none) (hg2 : Gl X y) (hm2 : X.mg y = some (.ref (Z.ca k))) (hdb2 : (y == ("__debug__" : Str)) = false)
    (ha : PE X e (rdE Z W F a)) (hp : plainE e = true) : PE X (.Call (.Name "isinstance" p) [e, .Name y p2] [] pos) (rdE Z W F (.bi (.isX k) (.cons a .nil))) := by
  have h2 : PE X (.Name y p2) (tC (.ref (Z.ca k))) := pe_mod hg2 hm2 rfl hdb2
  refine (pe_callB (call_isX hx hk) hg hm (by decide +kernel) (pa_cons ha (pa_cons h2 pa_nil) (star_cons hp)) (by decide) (by decide) (star_cons hp) rfl).impQ fun σ H Q h => ?_
  obtain ⟨ρ, s, m, h⟩ := h
  have h : Pst Z W (rRV Z σ) ρ s σ H (((dE F a s).bind fun x s => (deref x s).bind fun v => (pure [v] : M (List PV))).bind fun vs => M.ofO (opBi (.isX k) vs)) Q := h
  refine ⟨ρ, s, m, Pst.bind (rel2 := rRV Z σ) m (Pst.assoc h) fun ρ1 s1 H1 r x e n kx q => ?_⟩
  have q : Pst Z W (rRV Z σ) ρ s σ H ((deref r >>= fun v => M.ofO (opBi (.isX k) [v])) s1) Q := Pst.assoc q
  obtain ⟨v, h1, q2⟩ := Pst.deref n.sim kx (q.later m n)
  obtain ⟨r, e2, q3⟩ := Pst.res n.sim q2
  cases v with
  | exn c =>
    cases e2
    rcases h1 with h1 | ⟨_, _, h1⟩
    · cases h1 with
      | exn ea => exact ⟨_, c, ea, rfl, q3.fr0 (.bl _)⟩
    · cases h1
  | _ => cases e2
end
end Qv
end
section
set_option Elab.async false
set_option linter.all false
set_option autoImplicit false
set_option maxRecDepth 100000
set_option maxHeartbeats 1000000
/-! Q22: walks and targets while an exception is handled. -/
namespace Qv
open PySem PySem.Spec PyProof.Rows L2 HotX
section
variable {prog : Program} {w : World} {A : Around} {E : Value → Shared → Prop} {s : Shared} {x1 : Addr}
theorem zipEnd {z TI TO i1 i2 l1 l2 : Addr} {k1 k2 : Nat} {xs ys : Array Value} {a b : Value} {Q : Fin → Shared → Prop} (hot : HotAt A x1 s.heap) (D : ZipApart z TI TO i1 i2 l1 l2)
    (hz : IsZip s.heap z TI TO .none) (hTI : IsPair s.heap TI (.ref i1) (.ref i2)) (hTO : IsPair s.heap TO a b)
    (h1 : s.heap.IsListIter i1 l1 k1) (h2 : s.heap.IsListIter i2 l2 k2) (hl1 : s.heap.IsList l1 xs) (hl2 : s.heap.IsList l2 ys) (hend : xs[k1]? = none ∨ ys[k2]? = none)
    (hE : ∀ h' e, (∀ c o, c ≠ z → c ≠ TO → c ≠ i1 → c ≠ i2 → s.heap.get? c = some o → h'.get? c = some o) → (∃ o, h'.get? e = some o ∧ o.cls = .type "StopIteration") → E (.ref e) { s with heap := h' }) :
    wpAny (model prog w) A (Builtin.«zip.__next__» ⟨[.ref z], []⟩) Q E s := by
  have nz : x1 ≠ z := hot_ne (vs := #[]) hot hz fun vs e c => by
    cases e
    simp at c
  have nTO : x1 ≠ TO := hot_ne (vs := #[]) hot hTO fun vs e c => by cases e
  have n1 : x1 ≠ i1 := by
    obtain ⟨o, e1, _, d⟩ := h1
    exact hot_ne (vs := #[]) hot e1 fun vs e c => by
      rw [d] at e
      cases e
      simp at c
  show wpAny _ _ (field (.ref z) 2 >>= _) _ _ _
  refine wpAny_bind (wpAny_field hz rfl (x := .bool false) rfl ?_)
  show wpAny _ _ (field (.ref z) 3 >>= _) _ _ _
  refine wpAny_bind (wpAny_field hz rfl (x := .ref TI) rfl ?_)
  refine wpAny_bind (wpAny_seqItems hTI rfl ?_)
  show wpAny _ _ (Builtin.SmallTypes.ownedTupleIsFree (.ref z) >>= _) _ _ _
  refine wpAny_bind ?_
  unfold Builtin.SmallTypes.ownedTupleIsFree
  refine wpAny_bind (wpAny_field hz rfl (x := .none) rfl (wpAny_pure ?_))
  simp only [if_true]
  refine wpAny_bind (wpAny_rule ?_)
  refine wpAny_bind (wpAny_field hz rfl (x := .ref TO) rfl ?_)
  refine wpAny_bind (wpAny_setField_rec hz (by simp) fun h₁ hz₁ hs₁ => ?_)
  replace hz₁ : IsZip h₁ z TI TO .ellipsis := hz₁
  refine wpAny_bind ?_
  simp only [List.zipIdx_cons, List.zipIdx_nil, List.forIn_cons, List.forIn_nil]
  refine wpAny_bind (wpAny_bind (wpAny_onRaise ?_))
  show wpAny _ _ (Builtin.SmallTypes.nextOf (.ref i1) >>= _) _ _ _
  have hot1 : HotAt A x1 h₁ := hot_keep hot fun o e => hs₁.extBut _ _ nz e
  cases hx : xs[k1]? with
  | none =>
    refine wpAny_bind (Qv.next_list_end (s := { s with heap := h₁ }) (x1 := x1) hot1 (h1.extBut hs₁.extBut D.i1z) (hl1.extBut hs₁.extBut D.l1z) hx fun h₂ e hs₂ he => ?_)
    obtain ⟨oe, hoe, hce⟩ := he
    have hz₂ : IsZip h₂ z TI TO .ellipsis := hs₂ _ _ D.i1z.symm hz₁
    have hez : e ≠ z := fun x => by subst x; rw [hz₂] at hoe; cases hoe; simp at hce
    refine wpAny_setField_rec hz₂ (by simp) fun h₃ _ hs₃ => hE h₃ e (fun c o c1 _ c3 _ x => hs₃.extBut _ _ c1 (hs₂ _ _ c3 (hs₁.extBut _ _ c1 x))) ⟨oe, hs₃.extBut _ _ hez hoe, hce⟩
  | some x =>
    have hy : ys[k2]? = none := by rcases hend with h | h; rw [hx] at h; cases h; exact h
    refine wpAny_bind (wpAny_nextOf_list_item (h1.extBut hs₁.extBut D.i1z) (hl1.extBut hs₁.extBut D.l1z) hx fun h₂ h1₂ hs₂ => wpAny_pure ?_)
    have hTO₂ : IsPair h₂ TO a b := hs₂.extBut _ _ D.TOi1 (hs₁.extBut _ _ D.TOz hTO)
    refine wpAny_bind (wpAny_seqItems hTO₂ rfl ?_)
    refine wpAny_bind (wpAny_updateSeq_pair hTO₂ fun h₃ hTO₃ hs₃ => ?_)
    refine wpAny_bind (wpAny_letGo (wpAny_pure ?_))
    refine wpAny_bind (wpAny_bind (wpAny_onRaise ?_))
    show wpAny _ _ (Builtin.SmallTypes.nextOf (.ref i2) >>= _) _ _ _
    have hot3 : HotAt A x1 h₃ := hot_keep hot1 fun o e => hs₃.extBut _ _ nTO (hs₂.extBut _ _ n1 e)
    refine wpAny_bind (Qv.next_list_end (s := { s with heap := h₃ }) (x1 := x1) hot3 (((h2.extBut hs₁.extBut D.i2z).extBut hs₂.extBut D.i12.symm).extBut hs₃.extBut D.TOi2.symm)
      (((hl2.extBut hs₁.extBut D.l2z).extBut hs₂.extBut D.l2i1).extBut hs₃.extBut D.l2TO) hy fun h₄ e hs₄ he => ?_)
    obtain ⟨oe, hoe, hce⟩ := he
    have hz₄ : IsZip h₄ z TI TO .ellipsis := hs₄ _ _ D.i2z.symm (hs₃.extBut _ _ D.TOz.symm (hs₂.extBut _ _ D.i1z.symm hz₁))
    have hez : e ≠ z := fun x => by subst x; rw [hz₄] at hoe; cases hoe; simp at hce
    refine wpAny_setField_rec hz₄ (by simp) fun h₅ _ hs₅ => hE h₅ e (fun c o c1 c2 c3 c4 x => hs₅.extBut _ _ c1 (hs₄ _ _ c4 (hs₃.extBut _ _ c2 (hs₂.extBut _ _ c3 (hs₁.extBut _ _ c1 x))))) ⟨oe, hs₅.extBut _ _ hez hoe, hce⟩
theorem zipStop {z TI TO i1 i2 l1 l2 : Addr} {k1 k2 : Nat} {xs ys : Array Value} {a b : Value} {Q : Option Value → Shared → Prop} (hot : HotAt A x1 s.heap) (D : ZipApart z TI TO i1 i2 l1 l2)
    (hz : IsZip s.heap z TI TO .none) (hTI : IsPair s.heap TI (.ref i1) (.ref i2)) (hTO : IsPair s.heap TO a b)
    (h1 : s.heap.IsListIter i1 l1 k1) (h2 : s.heap.IsListIter i2 l2 k2) (hl1 : s.heap.IsList l1 xs) (hl2 : s.heap.IsList l2 ys) (hend : xs[k1]? = none ∨ ys[k2]? = none)
    (hQ : ∀ h', (∀ c o, c ≠ z → c ≠ TO → c ≠ i1 → c ≠ i2 → s.heap.get? c = some o → h'.get? c = some o) → Q none { s with heap := h' }) : wpAny (model prog w) A (pyNext (.ref z)) Q E s := by
  have hT : s.TypeIs (.ref z) "zip" := ⟨_, hz, rfl⟩
  unfold pyNext
  refine wpAny_bind (wpAny_attempt (wpAny_callSpecial?_slot (name := Str.ofString "__next__") hT F.slot_zip_next
    (wpAny_call_entry F.slot_zip_next hT F.entry_zip_next (zipEnd hot D hz hTI hTO h1 h2 hl1 hl2 hend fun h' e hk he => ?_) (F.args_zip_next_1 _))))
  obtain ⟨o, ho, hc⟩ := he
  refine wpAny_bind (wpAny_isInstance (T := "StopIteration") (b := true) ⟨o, ho, hc⟩ isSubtype_stop ?_)
  exact wpAny_pure (hQ _ hk)
/-- a tuple is unpacked -/
theorem unpackHot {t : Addr} {items : Array Value} {Q : List Value → Shared → Prop} (hot : HotAt A x1 s.heap) (ht : IsTup s.heap t items)
    (hQ : ∀ h', Heap.ExtBut s.heap.objs.size s.heap h' → Q items.toList { s with heap := h' }) : wpAny (model prog w) A (unpackItems (.ref t) items.size none) Q E s := by
  have hlt : t ≠ s.heap.objs.size := by obtain ⟨o, ho, _⟩ := ht; exact Nat.ne_of_lt (Heap.lt_size ho)
  have nx : x1 ≠ s.heap.objs.size := by obtain ⟨_, o, _, ho, _⟩ := hot; exact Nat.ne_of_lt (Heap.lt_size ho)
  unfold unpackItems
  refine wpAny_bind ?_
  unfold notIterableAtAll
  refine wpAny_bind (wpAny_specialOf ht.typeIs slot_tuple_iter.lookup ?_)
  refine wpAny_pure ?_
  simp only [Bool.false_eq_true, if_false]
  refine wpAny_bind (wpAny_holding (iter_tuple ht ?_))
  refine wpAny_bind (wpAny_holding (draw_tuple hlt items.size 0 _ _ ⟨_, Heap.get?_push_size _ rfl, rfl, rfl⟩ (ht.push _) (by omega) fun h₁ hit₁ hs₁ => ?_))
  have hall : List.take items.size (List.drop 0 items.toList) = items.toList := by
    rw [List.drop_zero]; exact List.take_of_length_le (by simp)
  rw [hall]
  rw [if_neg (by simp)]
  have ht₁ : IsTup h₁ t items := (ht.push _).extBut hs₁.extBut hlt
  have hot1 : HotAt A x1 h₁ := hot_keep hot fun o e => hs₁.extBut _ _ nx (Heap.get?_push_of_some _ e)
  refine wpAny_bind (wpAny_holding (Qv.next_tuple_end (s := { s with heap := h₁ }) (x1 := x1) hot1 hit₁ ht₁ (by simp) fun h₂ he₂ => ?_))
  simp only [Option.isSome_none, Bool.false_eq_true, if_false]
  exact wpAny_pure (hQ h₂ fun b o hb e => he₂ b o hb (hs₁.extBut b o hb (Heap.get?_push_of_some _ e)))
end
/-- the handled exception stands, its context is None -/
def BHot (X : Cx) : Prop := ∀ (pins : List (Addr × Obj)) (σ : Sg) (H : Hp) (s : Shared), Inv X pins σ H s → ∃ x1, HotAt X.A x1 s.heap
theorem bhot_of {X : Cx} (h : L2H.HotC X) : BHot X := fun _ _ _ _ I => h.at I
theorem bhot_blk {X : Cx} {scope : Scope} (h : L2H.HotC X) (pins : List (Addr × Obj)) (σ : Sg) (H : Hp) (s : Shared) (fp : List Addr) (I : Inv X pins σ H s) (hf : ∀ b ∈ fp, FpOk X pins H b) : BHot (X.blk s H scope (blkE X scope s) fp) := by
  obtain ⟨p, ⟨hh, v1, e1, c1⟩, hp⟩ := h
  obtain ⟨g1, g2, g3, g4, g5⟩ := I.pin p (List.mem_append_left _ hp)
  intro pins' σ' H' s' I'
  refine ⟨p.1, hh, p.2, v1, I'.base.keep p.1 p.2 g1 g2 (fun z => ?_) (fun z => ?_), e1, c1⟩
  · rcases List.mem_cons.mp (I.stkSub p.1 z) with q | q
    · exact g3 q
    · exact g4 q
  · exact (hf p.1 z).2.2.2.2.2 p (List.mem_append_left _ hp) rfl
section
variable {Z : Nm} {W : WX} {F : FT} {X : Cx}
theorem turn_zipH {P : Program} {w : World} {K : PySem.W.Frag} {elts : List Expr} {kk : Nat} {tpos : Pos} {a b z TI TO i1 i2 : Addr} (D : ZipApart z TI TO i1 i2 a b) :
    TurnB BHot P w K (.Tuple elts kk tpos) (Itz K a b) [z, TI, TO, i1, i2] z (fun i h => IsZip h z TI TO .none ∧ IsPair h TI (.ref i1) (.ref i2) ∧ (∃ x y, IsPair h TO x y) ∧ h.IsListIter i1 a i ∧ h.IsListIter i2 b i) where
  obj := (turn_zip (P := P) (w := w) (K := K) (elts := elts) (kk := kk) (tpos := tpos) D).obj
  keep := (turn_zip (P := P) (w := w) (K := K) (elts := elts) (kk := kk) (tpos := tpos) D).keep
  item := by
    intro X hP hw hK _ i pins s σ H E I hf st hg
    subst hP hw hK
    obtain ⟨hz, hTI, ⟨x0, y0, hTO⟩, h1, h2⟩ := st
    obtain ⟨xs, ys, x, y, hqx, hqy, hx, hy⟩ := hg
    obtain ⟨its, rv, p, _⟩ := I.list hqx
    obtain ⟨its2, rv2, p2, _⟩ := I.list hqy
    obtain ⟨u, hu, ru⟩ := rv.get hx
    obtain ⟨u2, hu2, ru2⟩ := rv2.get hy
    have hzl : z < s.heap.objs.size := Heap.lt_size hz
    refine wpAny_pyNext_zip_item D hz hTI hTO h1 h2 p.isList p2.isList (x := u) (y := u2) (by simpa using hu) (by simpa using hu2) fun h' z' TO' h1' h2' hT hsz hk => ?_
    refine ⟨_, rfl, wpAny_letOwnedTupleGo_zip (s := { s with heap := h' }) z' fun h'' z'' sb => ?_⟩
    have hT2 : h''.get? s.heap.objs.size = some { cls := .type "tuple", data := .seq #[u, u2] } := (sb.2 _ (Nat.ne_of_gt hzl)).trans hT
    have new : ObjOk X.prog X.w (upd H s.heap.objs.size (.tup [x, y])) h'' s.heap.objs.size (.tup [x, y]) := ⟨by show 2 ≤ sizeLine; decide, [u, u2], .cons ru (.cons ru2 .nil), ⟨_, hT2, rfl, _, rfl⟩⟩
    have I1 : Inv X pins σ (upd H s.heap.objs.size (.tup [x, y])) { s with heap := h'' } :=
      I.turnedNew (t' := s.toks) (ch := [z, TI, TO, i1, i2]) (fun c o hb q => (sb.2 c (fun q' => hb (by simp [q']))).trans (hk c o (fun q' => hb (by simp [q'])) (fun q' => hb (by simp [q'])) (fun q' => hb (by simp [q'])) (fun q' => hb (by simp [q'])) q)) hf (Nat.le_refl _) new
    refine ⟨.ref s.heap.objs.size, _, I1, rfl, ⟨_, x, y, rfl, I.hok.fresh (Nat.le_refl _), rfl, fun l hl => by rw [I.list_inj hl hqx]; exact hx, fun l hl => by rw [I.list_inj hl hqy]; exact hy⟩, ⟨z'', ?_, ⟨u, u2, ?_⟩, ?_, ?_⟩, fun c hcm => ?_⟩
    · exact (sb.2 _ D.TIz).trans (hk _ _ D.TIz D.TITO D.TIi1 D.TIi2 hTI)
    · exact (sb.2 _ D.TOz).trans TO'
    · exact h1'.at fun o q => (sb.2 _ D.i1z).trans q
    · exact h2'.at fun o q => (sb.2 _ D.i2z).trans q
    · have hlt : c < s.heap.objs.size := by
        have e' : c = z ∨ c = TI ∨ c = TO ∨ c = i1 ∨ c = i2 := by simpa using hcm
        rcases e' with q | q | q | q | q
        · rw [q]; exact hzl
        · rw [q]; exact Heap.lt_size hTI
        · rw [q]; exact Heap.lt_size hTO
        · rw [q]; obtain ⟨_, e1, _⟩ := h1; exact Heap.lt_size e1
        · rw [q]; obtain ⟨_, e2, _⟩ := h2; exact Heap.lt_size e2
      rw [upd_ne (Nat.ne_of_lt hlt)]
      exact (hf c hcm).1
  done := by
    intro X hP hw hK hB i pins s σ H E I hf st hg
    subst hP hw hK
    obtain ⟨hz, hTI, ⟨x0, y0, hTO⟩, h1, h2⟩ := st
    obtain ⟨xs, ys, hqx, hqy, hend⟩ := hg
    obtain ⟨its, rv, p, _⟩ := I.list hqx
    obtain ⟨its2, rv2, p2, _⟩ := I.list hqy
    have l1 := rv.length
    have l2 := rv2.length
    have he : its.toArray[i]? = none ∨ its2.toArray[i]? = none := hend.imp (fun q => by simp; omega) fun q => by simp; omega
    obtain ⟨x1, hot⟩ := hB pins σ H s I
    exact zipStop hot D hz hTI hTO h1 h2 p.isList p2.isList he fun h' hk => ⟨rfl, I.turnedL (t' := s.toks) (ch := [z, TI, TO, i1, i2]) (fun c o hb q =>
      hk c o (fun q' => hb (by simp [q'])) (fun q' => hb (by simp [q'])) (fun q' => hb (by simp [q'])) (fun q' => hb (by simp [q'])) q) hf⟩
  self := (turn_zip (P := P) (w := w) (K := K) (elts := elts) (kk := kk) (tpos := tpos) D).self
def iZipL (K : PySem.W.Frag) (ta : TA) : TI := fun σ H R => ta σ H fun vs H1 => ∃ a b xs ys, vs = [.ref a, .ref b] ∧ SqL K H1 a xs ∧ SqL K H1 b ys ∧ R (Itz K a b) H1
theorem pi_zipH {e e2 : Expr} {ta : TA} {p pos tpos : Pos} {elts : List Expr} {kk : Nat} (hg : Gl X "zip") (hm : X.mg "zip" = none) (ha : PA X [e, e2] ta)
    (hs : starEach [e, e2] X.env = (false, eval e X.env) :: starEach [e2] X.env) (hpl : (backTo pos (starEach [e2] X.env)).any (·.1) = false) :
    PIB BHot X (.Tuple elts kk tpos) (.Call (.Name "zip" p) [e, e2] [] pos) (iZipL X.K ta) := by
  refine ⟨fun pins s σ H R I h => ?_⟩
  refine Call_ (ld_blt I hg hm PyProof.Rows.boot_zip (PyProof.Rows.callWith_type1 (thn (ha.run pos pins s σ H _ I h) fun us s1 ⟨vs, H1, I1, r1, q1⟩ => ?_) hs hpl))
  obtain ⟨a, b, xs, ys, ex, hqx, hqy, q⟩ := q1
  subst ex
  cases r1 with
  | cons r rr =>
    cases rr with
    | cons r' rr =>
      cases rr
      cases r
      cases r'
      have fresh5 : ∀ c, c ∈ [s1.heap.objs.size + 4, s1.heap.objs.size + 2, s1.heap.objs.size + 3, s1.heap.objs.size, s1.heap.objs.size + 1] → FpOk X pins H1 c := fun c hcm => by
        have hle : s1.heap.objs.size ≤ c := by
          have e' : c = s1.heap.objs.size + 4 ∨ c = s1.heap.objs.size + 2 ∨ c = s1.heap.objs.size + 3 ∨ c = s1.heap.objs.size ∨ c = s1.heap.objs.size + 1 := by simpa using hcm
          rcases e' with z | z | z | z | z <;> rw [z] <;> first | exact Nat.le_add_right _ _ | exact Nat.le_refl _
        exact I1.fpOk hle (I1.hok.fresh hle)
      obtain ⟨its, rv, p1, _⟩ := I1.list hqx
      obtain ⟨its2, rv2, p2, _⟩ := I1.list hqy
      refine call_zip_2 p1.isList p2.isList fun h' hz hTI hTO h1 h2 hsz hk => wpAny_pyIter_zip hz ?_
      have I2 : Inv X pins σ H1 { s1 with heap := h' } := I1.kept (t' := s1.toks) hk
      exact ⟨s1.heap.objs.size + 4, [s1.heap.objs.size + 4, s1.heap.objs.size + 2, s1.heap.objs.size + 3, s1.heap.objs.size, s1.heap.objs.size + 1], _, _, H1, rfl, I2, turn_zipH (PySem.W.ktu_apart s1.heap.objs.size a b p1.lt p2.lt), ⟨hz, hTI, ⟨_, _, hTO⟩, h1, h2⟩, fresh5, q⟩
theorem pg_tupH {es : List Expr} {k : Nat} {t : TGs} {n : Nat} {pos : Pos} (hB : BHot X) (h : PGs X es t) (hn : (assignEach es X.env).length = n) (hst : (assignEach es X.env).findIdx? (·.1) = none) : PG X (.Tuple es k pos) (gTup X.K n t) := by
  refine ⟨fun pins s σ H v u Q I r hw => ?_⟩
  obtain ⟨a, xs, e1, hq, hl, hw⟩ := hw
  subst e1
  cases r
  obtain ⟨its, rv, ht, hz⟩ := I.tuple hq
  obtain ⟨x1, hot⟩ := hB pins σ H s I
  have hsz : (assignEach es X.env).length = its.toArray.size := by simp [hn, ← hl, rv.length]
  rw [PyProof.Rows.assign_Tuple]
  refine wpAny_bind (wpAny_standAt ?_)
  unfold unpack
  rw [hsz, hst]
  refine wpAny_bind (wpAny_holding (unpackHot hot ht fun h' hx => ?_))
  have I1 : Inv X pins σ H { s with heap := h' } := I.kept (t' := s.toks) fun b o e => hx b o (Nat.ne_of_lt (Heap.lt_size e)) e
  exact h.run pins _ σ H xs _ Q I1 (by simpa using rv) hw
end
end Qv
end
section
set_option Elab.async false
set_option linter.all false
set_option autoImplicit false
set_option maxRecDepth 100000
set_option maxHeartbeats 1000000
/-! Q23: try; a def that is called with the handled exception. -/
namespace Qv
open PySem PySem.Spec PyProof.Rows L2 HotX
def Nm.at (Z : Nm) (a : Addr) (c : Nat) : Nm := { Z with xa := some (a, c) }
section
variable {Z : Nm} {ρ : List Addr} {a0 : Addr} {c0 : Nat}
mutual
theorem Rp.at (hx : Z.xa = none) : ∀ {H : Hp} {x : PV} {v : V}, Rp Z ρ H x v → Rp (Z.at a0 c0) ρ H x v
  | _, _, _, .non => .non
  | _, _, _, .bl b => .bl b
  | _, _, _, .int i => .int i
  | _, _, _, .str x => .str x
  | _, _, _, .tup h r => .tup h (Rps.at hx r)
  | _, _, _, .lst h r => .lst h (Rps.at hx r)
  | _, _, _, .fn i => .fn (Z := Z.at a0 c0) i
  | _, _, _, .cl i => .cl (Z := Z.at a0 c0) i
  | _, _, _, .ob h => .ob h
  | _, _, _, .clo h l r => .clo (Z := Z.at a0 c0) h l (Rps.at hx r)
  | _, _, _, .exn h => by rw [hx] at h; cases h
theorem Rps.at (hx : Z.xa = none) : ∀ {H : Hp} {xs : List PV} {vs : List V}, Rps Z ρ H xs vs → Rps (Z.at a0 c0) ρ H xs vs
  | _, _, _, .nil => .nil
  | _, _, _, .cons h r => .cons (Rp.at hx h) (Rps.at hx r)
end
mutual
theorem Rp.un : ∀ {H : Hp} {x : PV} {v : V}, x.data = true → Rp (Z.at a0 c0) ρ H x v → Rp Z ρ H x v
  | _, _, _, _, .non => .non
  | _, _, _, _, .bl b => .bl b
  | _, _, _, _, .int i => .int i
  | _, _, _, _, .str x => .str x
  | _, _, _, d, .tup h r => .tup h (Rps.un (by simpa [PV.data] using d) r)
  | _, _, _, d, .lst h r => .lst h (Rps.un (by simpa [PV.data] using d) r)
  | _, _, _, _, .fn i => .fn (Z := Z) i
  | _, _, _, _, .cl i => .cl (Z := Z) i
  | _, _, _, _, .ob h => .ob h
  | _, _, _, d, .clo h l r => by simp [PV.data] at d
  | _, _, _, d, .exn h => by simp [PV.data] at d
theorem Rps.un : ∀ {H : Hp} {xs : List PV} {vs : List V}, PV.datas xs = true → Rps (Z.at a0 c0) ρ H xs vs → Rps Z ρ H xs vs
  | _, _, _, _, .nil => .nil
  | _, _, _, d, .cons h r => by
    simp only [PV.datas, Bool.and_eq_true] at d
    exact .cons (Rp.un d.1 h) (Rps.un d.2 r)
end
variable {H : Hp}
theorem Rfs.at (hx : Z.xa = none) : ∀ {x : List (Str × PV)} {v : List (Str × V)}, Rfs Z ρ H x v → Rfs (Z.at a0 c0) ρ H x v
  | _, _, .nil => .nil
  | _, _, .cons h r => .cons (Rp.at hx h) (Rfs.at hx r)
theorem Rfs.un : ∀ {x : List (Str × PV)} {v : List (Str × V)}, x.all (·.2.data) = true → Rfs (Z.at a0 c0) ρ H x v → Rfs Z ρ H x v
  | _, _, _, .nil => .nil
  | _, _, d, .cons h r => by
    rw [List.all_cons, Bool.and_eq_true] at d
    exact .cons (Rp.un d.1 h) (Rfs.un d.2 r)
theorem Obs.at (hx : Z.xa = none) {obl : List Ob} (o : Obs Z ρ obl H) : Obs (Z.at a0 c0) ρ obl H :=
  ⟨o.len, o.nd, fun n ob b q1 q2 => let ⟨dx, fs, e1, e2, e3⟩ := o.at_ n ob b q1 q2; ⟨dx, fs, e1, e2.at hx, e3⟩, o.tab⟩
theorem Obs.un {obl : List Ob} (o : Obs (Z.at a0 c0) ρ obl H) : Obs Z ρ obl H :=
  ⟨o.len, o.nd, fun n ob b q1 q2 => let ⟨dx, fs, e1, e2, e3⟩ := o.at_ n ob b q1 q2; ⟨dx, fs, e1, Rfs.un e3 e2, e3⟩, o.tab⟩
theorem Sim.at (hx : Z.xa = none) {s : Sta} {σ : Sg} (m : Sim Z ρ s σ H) : Sim (Z.at a0 c0) ρ s σ H :=
  ⟨m.len, fun i v q => let ⟨x, e1, e2⟩ := m.fr i v q; ⟨x, e1, e2.at hx⟩, fun i v q => by
    obtain ⟨b, e1, e2⟩ := m.own i v q
    refine ⟨b, e1, ?_⟩
    cases e2 with
    | lst h r => exact .lst h (r.at hx), m.dis, m.obs.at hx⟩
theorem SimB.at (hx : Z.xa = Option.none) {bs : Bs} {s : Sta} {σ : Sg} (m : SimB bs Z ρ s σ H) : SimB bs (Z.at a0 c0) ρ s σ H := ⟨m.sim.at hx, m.fr, m.own, m.pre, m.new, m.th, m.tb, m.z0⟩
theorem env_no {e : List Slot} {i : Nat} {y : Slot} (h : (e.map fun _ => Slot.no)[i]? = some y) : y = .no := by
  rw [List.getElem?_map] at h
  cases q : e[i]? with
  | none => rw [q] at h; cases h
  | some z => rw [q] at h; exact (Option.some.inj h).symm
/-- the names forgotten -/
theorem SimB.forget {bs : Bs} {s : Sta} {σ : Sg} (m : SimB bs (Z.at a0 c0) ρ s σ H) : SimB bs Z ρ ⟨s.env.map (fun _ => .no), s.obs⟩ σ H := by
  refine ⟨⟨?_, fun i v q => ?_, fun i v q => ?_, fun i j v w b q => ?_, m.sim.obs.un⟩, m.fr, fun b h => ?_, m.pre, m.new, m.th, m.tb, m.z0⟩
  · show (s.env.map _).length = _
    rw [List.length_map]
    exact m.sim.len
  · have := env_no (e := s.env) q
    cases this
  · have := env_no (e := s.env) q
    cases this
  · have := env_no (e := s.env) q
    cases this
  · obtain ⟨i, v, q, _⟩ := h
    have := env_no (e := s.env) q
    cases this
end

/-! ### a def that is called with the handled exception -/
def FnE (P : Program) (w : World) (K : PySem.W.Frag) (mg : Str → Option Value) (base : Heap) (k n : Nat) (f : Addr) (fd : FuncData) (ps : List Str) (Z : Nm) (C : List PV → List Ob → Qv.CR) : Prop :=
  ∀ (A : Around) (outer : List Env) (s : Shared) (H : Hp) (args : PySem.Args) (Q : VK) (E : XK) (p : Addr × Obj) (c : Nat) (ρ : List Addr) (obs : List Ob), L2H.RoomH k A → L2H.Hot1 A p → L2H.PinOk outer H s p → Zc (.ref (Z.ca c)) none p.2 → c < n → Env0 P w K mg base A outer s H →
    BindsTo s fd args (ps.zip [.ref p.1]) → Obs (Z.at p.1 c) ρ obs H → CPst (Z.at p.1 c) none ρ H (C [.exn c] obs) Q E → codeAny (model P w) A (.call (.ref f) args) (L2.CR (L2N.CX P w) outer P w H s Q E) s
theorem fnE_of {P : Program} {w : World} {K : PySem.W.Frag} {mg : Str → Option Value} {base : Heap} {Z : Nm} {D : Nat → Option Def} {n f k m : Nat} {d : Def} {x qual : Str} {st : Stmt} {A : Addr} {fd : FuncData} {N ps : List Str}
    (hD : D f = some d) (hl : d.lent = false) (hnp : d.np = 1) (Fu : Fun K x qual st A fd) (S : FnScope N ps (defScope st)) (hps : ps.length = 1) (hN : N.length = d.ns)
    (hb : ∀ (bs : Bs) (cdv : Value) (B : Around) (outer : List Env) (s : Shared) (H : Hp) (E : XK) (p : Addr × Obj) (c : Nat), bs.lp = none → c < m → HotE (L2H.cxH (L2N.CX P w) P w K mg base N qual (defScope st) A cdv B outer s H E p) (Z.at p.1 c) →
      PSs (L2H.cxH (L2N.CX P w) P w K mg base N qual (defScope st) A cdv B outer s H E p) (defBody st) (rdS bs (Z.at p.1 c) (fun cls dd _ H => E cls dd H) (callF D n) d.body)) :
    FnE P w K mg base (k + 1) m A fd ps Z (callF D (n + 1) f) := by
  obtain ⟨oc, od, kV, doc, pm, an, cdv, ct, osl, rfl, lk, hcd⟩ := Fu.ex
  intro B outer s H args Q E p c ρ obs hr hot hpin hz hc e0 hbind o cp
  have KX : K.In s.heap := e0.mod.kin.keeps fun b o e => (e0.bs b o e).1
  have lim : s.heap.NoLimit := e0.mod.nolimit.keeps fun b o e => (e0.bs b o e).1
  have hkind : ∀ y ∈ ps.zip [Value.ref p.1], (defScope st).names.lookup y.1 = some .local ∨ ((defScope st).names.lookup y.1 = some .cell ∧ ((cellsFrom (s.heap.objs.size + 1) (defScope st).names []).lookup y.1).isSome = true) := fun ⟨n, v⟩ hy =>
    (S.par n (List.of_mem_zip hy).1).imp id fun q => ⟨q, PySem.W.cellsFrom_some _ _ _ (.inl q)⟩
  refine codeAny_call_function hr.depth (KX _ _ lk) rfl S.co S.gen rfl (PySem.W.codeRec_of KX hcd) (hbind _ _ _ _ ?_)
  refine wpAny_newFunctionEnv_cells S.kind hkind fun env he s1 x => ?_
  subst he
  refine ⟨lim.keeps x.toInCall.keep, codeAny_func ?_⟩
  have rv : Vals [V.ref p.1] [Value.ref p.1] := .cons rfl .nil
  have I : Inv (L2H.cxH (L2N.CX P w) P w K mg base N qual (defScope st) A cdv B outer s H E p) [] (L2.start N [V.ref p.1]) H s1 := L2H.inv_startH S hpin e0 (by rw [hps]; rfl) rv x
  have hotE : HotE (L2H.cxH (L2N.CX P w) P w K mg base N qual (defScope st) A cdv B outer s H E p) (Z.at p.1 c) := by
    obtain ⟨h1, vs, h2, h3⟩ := hot
    exact ⟨p.1, c, p.2, vs, rfl, List.mem_cons_self, hz, h2, h3, h1⟩
  have hNl : 1 ≤ N.length := by
    have := congrArg List.length S.pre
    rw [List.length_take] at this
    omega
  have ms : SimB ⟨H, none, ρ⟩ (Z.at p.1 c) ρ ⟨slots0 d [.exn c], obs⟩ (L2.start N [V.ref p.1]) H := by
    refine sim_start o ?_ hN hNl
    rw [hl]
    exact .plain (.cons (.exn rfl) .nil)
  have e2 : callF D (n + 1) f [.exn c] obs = endC d (dS (callF D n) d.body ⟨slots0 d [.exn c], obs⟩) := by
    show (match D f with | none => Qv.CR.bad | some d => if [PV.exn c].length = d.np then endC d (dS (callF D n) d.body ⟨slots0 d [.exn c], obs⟩) else .bad) = _
    rw [hD]
    exact if_pos (by rw [hnp]; rfl)
  rw [e2] at cp
  have sp := cpst_end (lp := none) (ρ := ρ) (d := d) ⟨fun _ => hl, fun _ => rfl⟩ cp
  refine wpAny_mono ((hb ⟨H, none, ρ⟩ cdv B outer s H E p c rfl hc hotE).run [] s1 (L2.start N [V.ref p.1]) H _ I ⟨ρ, _, ms, sp⟩) (fun fl s' hs => ?_) fun e s' hs => hs
  have fin : ∀ {σ' : Sg} {H' : Hp} {v : V} {u : Value}, Inv (L2H.cxH (L2N.CX P w) P w K mg base N qual (defScope st) A cdv B outer s H E p) [] σ' H' s' → RelV v u → Q v H' → CE outer P w H s Q u s' :=
    fun {σ' H' v u} J rv q => ⟨v, H', J.os, J.bare, J.base, J.hok, rv, q⟩
  cases fl with
  | ret u =>
    obtain ⟨v, σ', H', J, rv, q⟩ := hs
    exact fin J rv q
  | next =>
    obtain ⟨σ', H', J, q⟩ := hs
    exact fin (v := V.non) (u := Value.none) J rfl q
  | brk =>
    obtain ⟨_, _, _, q⟩ := hs
    exact False.elim q
  | cont =>
    obtain ⟨_, _, _, q⟩ := hs
    exact False.elim q
section
variable {bs : Bs} {Z : Nm} {W : WX} {F : FT} {X : Cx}
/-- f(e), e the handled exception -/
theorem s_callx {f i k n : Nat} {A : Addr} {x y : Str} {p p2 pos : Pos} {fd : FuncData} {ps : List Str} {a0 : Addr} {c0 : Nat} (FO : FnE X.prog X.w X.K X.mg X.base k n A fd ps Z (F f)) (hps : ps.length = 1) (hc0 : c0 < n) (hr : L2H.RoomH k X.A) (hx : HotE X (Z.at a0 c0))
    (hg : Gl X x) (hm : X.mg x = some (.ref A)) (hk : PySem.W.keepIn X.K (.ref A) = true) (hb : Binds X.K fd ps []) (hN : X.N[i]? = some y) (hv : Vis X.env.scope y) (hd : (y == ("__debug__" : Str)) = false) (hcd : (y == ("__classdict__" : Str)) = false)
    (tk : L2N.Takes X W) (hdb : (x == ("__debug__" : Str)) = false) : PE X (.Call (.Name x p) [.Name y p2] [] pos) (rdE (Z.at a0 c0) W F (.callx f i)) := by
  refine ⟨fun pins sh σ H Q I h => ?_⟩
  obtain ⟨ρ, s, m, h⟩ := h
  have h : Pst (Z.at a0 c0) W (rRV (Z.at a0 c0) σ) ρ s σ H ((frAt i s).bind fun v s => (asExn v s).bind fun v s => (F f [v] s.obs).keep.toM s) Q := h
  unfold frAt at h
  cases e0 : slotAt i s with
  | no => rw [e0] at h; exact False.elim h
  | own v => rw [e0] at h; exact False.elim h
  | fr v =>
    rw [e0] at h
    have h : Pst (Z.at a0 c0) W (rRV (Z.at a0 c0) σ) ρ s σ H ((asExn v s).bind fun v s => (F f [v] s.obs).keep.toM s) Q := h
    obtain ⟨xv, hs, rp⟩ := m.fr i v (slot_get e0 (fun z => nomatch z))
    cases rp with
    | @exn _ c a ea =>
      have h : Pst (Z.at a0 c0) W (rRV (Z.at a0 c0) σ) ρ s σ H ((F f [.exn c] s.obs).keep.toM s) Q := h
      cases (show some (a0, c0) = some (a, c) from ea)
      have cp := cpst_of m h
      refine wpAny_Call_Name_kw (ld_glob I hg hm ?_ hdb)
      have hA := (pa_cons (pe_var (pos := p2) hN hv hd hcd) pa_nil (star_cons (e := .Name y p2) rfl)).run pos pins sh σ H (fun vs H1 => vs = [.ref a0] ∧ H1 = H) I ⟨.ref a0, hs, rfl, rfl⟩
      refine PySem.W.callWith_K (h₀ := X.base) I.ok.mod.kin hk (thn hA fun us s1 ⟨vs, H1, I1, r, q⟩ => ⟨I1.kIn, ?_⟩) (star_cons rfl) rfl
      obtain ⟨rfl, rfl⟩ := q
      cases r with
      | cons r rr =>
        cases rr
        cases r
        have hot := hx.hot
        obtain ⟨a', c', oe, vs, z1, z2, z3, z4, z5, z6⟩ := hx
        cases (show some (a0, c0) = some (a', c') from z1)
        have P1 := I1.pin (a0, oe) (List.mem_append_left _ z2)
        have hpin : L2H.PinOk X.stack H1 s1 (a0, oe) := ⟨P1.1, P1.2.1, fun hm => (List.mem_cons.mp (I1.stkSub a0 hm)).elim P1.2.2.1 P1.2.2.2.1, P1.2.2.2.2⟩
        have b := hb s1 [.ref a0] I1.kIn (by rw [List.append_nil, hps]; rfl)
        rw [List.append_nil] at b
        have cp2 : CPst (Z.at a0 c0) none ρ H1 (F f [.exn c0] s.obs) Q (WE W σ) := by
          cases er : F f [.exn c0] s.obs with
          | bad => rw [er] at cp; exact cp
          | exc c o => rw [er] at cp; exact cp
          | ok v o out obs' =>
            rw [er] at cp
            have cp : CPst (Z.at a0 c0) none ρ H1 (if v.data then .ok v o out obs' else .bad) Q (WE W σ) := cp
            split at cp
            · exact cp
            · exact False.elim cp
        refine wpAny_call (codeAny_mono (FO X.A X.stack s1 H1 ⟨[.ref a0], []⟩ Q (WE W σ) (a0, oe) c0 ρ s.obs hr ⟨z6, vs, z4, z5⟩ hpin z3 hc0 I1.env0 b m.obs cp2) fun r s' hq => ?_)
        cases r with
        | error e => exact L2N.passAt tk σ pins H1 s1 e s' I1 hq
        | ok fl =>
          cases fl with
          | ret u => exact I1.after hq
          | next => exact False.elim hq
          | brk => exact False.elim hq
          | cont => exact False.elim hq
    | _ => exact False.elim h
/-- try: body, except C as e: return .. -/
theorem st_try {n i : Nat} {b : St} {h : E} {x y : Str} {cv : Value} {body : List Stmt} {he : Expr} {np rp pos pos' : Pos} (hx0 : Z.xa = none) (hz : bs.lp = none ∨ i ≠ 0) (hs : X.stack = X.env :: X.outer) (hf : X.env.frame = some X.env.locals) (hN : X.N.Nodup) (hi : X.N[i]? = some y)
    (hln : X.env.kindOf y = some .local) (hc : Names X x cv) (tk : L2N.Takes X W) (hcls : ∀ c, c < n → PySem.W.exmOne X.K (.ref (Z.ca c)) cv = some true)
    (hb : ∀ (W : WX) (pn : List (Addr × Obj)) (xe : Value → Shared → Prop), L2N.Takes (X.tr pn xe) W → PassesOwn (model X.prog X.w) X.A X.env xe → PSs (X.tr pn xe) body (rdS bs Z W F b))
    (hh : ∀ (a : Addr) (c : Nat) (oe : Obj) (pn : List (Addr × Obj)), c < n → HotE (X.suite a ((a, oe) :: pn)) (Z.at a c) → PE (X.suite a ((a, oe) :: pn)) he (rdE (Z.at a c) (fun _ _ _ _ => False) F h)) :
    PS X (.Try body [.ExceptHandler (some (.Name x np)) (some y) [.Return (some he) rp] pos'] [] [] pos) (rdS bs Z W F (.tryx n b i h)) := by
  refine (L2N.ps_try_as (tb := fun W => rdS bs Z W F b) (ts := fun a cls d D σ H => ∃ c, cls = .ref (Z.ca c) ∧ d = none ∧ c < n ∧ ∃ ρ s, Sim (Z.at a c) ρ s σ H ∧ Pst (Z.at a c) (fun _ _ _ _ => False) (rRV (Z.at a c) σ) ρ s σ H (dE F h s) fun x H1 => D.rt x H1)
    (Wout := W) hs hf hN hi hln hc tk hb fun a oe cls d pn hz hfs => ⟨fun pins s σ H D I q => ?_⟩).impQ fun D σ H q => ?_
  · obtain ⟨c, rfl, rfl, hcn, q⟩ := q
    obtain ⟨vs, hfs⟩ := hfs
    have hot : HotE (X.suite a ((a, oe) :: pn)) (Z.at a c) := ⟨a, c, oe, vs, rfl, List.mem_cons_self, hz.zc, hfs, hz.2.2 vs hfs, rfl⟩
    exact (pss_one (ps_ret (hh a c oe pn hcn hot))).run pins s σ H D I q
  · obtain ⟨ρ, s, m, q⟩ := q
    have q : SPst bs Z W ρ H (tryM n i (dS F b) (dE F h) s) D := q
    refine ⟨ρ, s, m, ?_⟩
    unfold tryM at q
    cases e : dS F b s with
    | bad => rw [e] at q; exact q
    | ok f s' =>
      rw [e] at q
      cases f with
      | nx => exact q
      | ret r => exact q
    | exc c s' =>
      rw [e] at q
      have q : SPst bs Z W ρ H (if c < n then (match dE F h (s'.put i (.fr (.exn c))) with
        | .ok (.fr v) s2 => if v.data then .ok (.ret (.fr v)) ⟨s2.env.map (fun _ => .no), s2.obs⟩ else .bad
        | _ => .bad) else .bad) D := q
      split at q
      · rename_i hcn
        intro ρ' σ' H' m' kp
        refine ⟨true, hcls c hcn, fun _ a ha => ⟨c, rfl, rfl, hcn, ρ', s'.put i (.fr (.exn c)), ?_, ?_⟩, fun z => Bool.noConfusion z⟩
        · exact (Tgx.setFr (m'.sim.at hx0) (Rp.exn (Z := Z.at a c) rfl)).sim
        · have tx : Tgx (Z.at a c) ρ' H' s' σ' (s'.put i (.fr (.exn c))) (σ'.set i (some (.ref a))) [i] := Tgx.setFr (m'.sim.at hx0) (Rp.exn (Z := Z.at a c) rfl)
          have m2 : SimB bs (Z.at a c) ρ' (s'.put i (.fr (.exn c))) (σ'.set i (some (.ref a))) H' := SimB.tgx (hz.imp id fun h z => h (List.mem_singleton.mp z).symm) (m'.at hx0) tx
          cases er : dE F h (s'.put i (.fr (.exn c))) with
          | bad => rw [er] at q; exact q
          | exc c2 s2 => rw [er] at q; exact False.elim q
          | ok r s2 =>
            rw [er] at q
            cases r with
            | own v => exact False.elim q
            | sl j => exact False.elim q
            | fr v =>
              have q : SPst bs Z W ρ H (if v.data then .ok (.ret (.fr v)) ⟨s2.env.map (fun _ => .no), s2.obs⟩ else .bad) D := q
              split at q
              · rename_i hd
                intro ρ3 H3 x nx rx
                have m3 := m2.nxt nx
                exact q ρ3 _ H3 x m3.forget (kp.trans (nx.kp m2.sim)) (Rp.un hd rx)
              · exact False.elim q
      · exact False.elim q
/-- zip of two lists while an exception is handled -/
theorem i_zipH {a b : E} {e e2 : Expr} {p pos tpos : Pos} {elts : List Expr} {kk : Nat} (hg : Gl X "zip") (hm : X.mg "zip" = none) (ha : PE X e (rdE Z W F a)) (hb : PE X e2 (rdE Z W F b)) (hp : plainE e = true) (hp2 : plainE e2 = true) :
    PIB BHot X (.Tuple elts kk tpos) (.Call (.Name "zip" p) [e, e2] [] pos) (rdI Z W F (.zipL a b)) := by
  have h0 := pi_zipH (tpos := tpos) (elts := elts) (kk := kk) (p := p) (pos := pos) hg hm (pa_cons (PE.frz ha).bound (pa_cons (PE.frz hb) pa_nil (star_cons hp2)) (star_cons hp)) (star_cons hp) (star_any (by rw [List.all_cons, hp2]; rfl))
  refine ⟨fun pins s σ H R I h => h0.run pins s σ H R I ?_⟩
  obtain ⟨ρ, s, m, h⟩ := h
  have h : Pst Z W (rSrc Z) ρ s σ H ((dE F a s).bind fun x s => (frz x s).bind fun v s => (dE F b s).bind fun y s => (frz y s).bind fun u => zipLM v u) R := h
  have h : Pst Z W (rSrc Z) ρ s σ H (((dE F a >>= frz) s).bind fun v s => (dE F b s).bind fun y s => (frz y s).bind fun u => zipLM v u) R := Pst.unassoc h
  refine ⟨ρ, s, m, Pst.bind (rel2 := rSrc Z) m h fun ρ1 s1 H1 v x e n k q bd => ?_⟩
  have q : Pst Z W (rSrc Z) ρ s σ H (((dE F b >>= frz) s1).bind fun u => zipLM v u) R := Pst.unassoc q
  refine ⟨ρ1, s1, n.sim, Pst.bind (rel2 := rSrc Z) n.sim (q.later m n) fun ρ2 s2 H2 u y e2 n2 k2 q2 => ?_⟩
  have q2 := q2.later n.sim n2
  have k0 : Rp Z ρ1 H1 v x := k
  have k : Rp Z ρ2 H2 v x := Rp.mono (n2.kp n.sim) k
  have zl := zipP_len
  have k2 : Rp Z ρ2 H2 u y := k2
  cases v with
  | lst xs =>
    cases u with
    | lst ys =>
      obtain ⟨a, rfl, st⟩ := k.stL
      obtain ⟨b, rfl, st2⟩ := k2.stL
      obtain ⟨o, ws, h1, h2⟩ := id st
      obtain ⟨o', ws', h3, h4⟩ := id st2
      exact ⟨a, b, ws, ws', rfl, .inl (.inr ⟨o, h1⟩), .inl (.inr ⟨o', h3⟩), q2 ρ2 H2 _ (.refl n2.sim) ⟨⟨_, src_zipL, st, st2⟩, by obtain ⟨_, e, st0⟩ := k0.stL; cases e; have := bd.lst st0; rw [zl]; omega⟩⟩
    | _ => exact False.elim q2
  | _ => exact False.elim q2
theorem g_tpH {es : List Expr} {k : Nat} {ts : Tg} {pos : Pos} (hB : BHot X) (h : PGs X es (rdTs Z ts)) (hp : es.all plainE = true) (hl : ∀ vs s, es.length ≠ vs.length → setTgs ts vs s = .bad) : PG X (.Tuple es k pos) (rdT Z (.tp ts)) := by
  refine (pg_tupH hB h (assignEach_len es X.env) (assignEach_any hp)).impQ fun y σ H Q q => ?_
  obtain ⟨ρ, s, v, m, r, q⟩ := q
  cases v with
  | tup xs =>
    cases r with
    | tup hT rs =>
      have q : TPst Z ρ s σ H ts.slots (setTgs ts xs s) Q := q
      refine ⟨_, _, rfl, .inl (.inl hT), ?_, ρ, s, xs, m, rs, q⟩
      rw [← rs.length]
      by_cases e : es.length = xs.length
      · exact e.symm
      · rw [hl xs s e] at q
        exact False.elim q
  | _ => exact False.elim q
end
end Qv
end
section
set_option Elab.async false
set_option linter.all false
set_option autoImplicit false
set_option maxRecDepth 100000
set_option maxHeartbeats 1000000
/-! Q24: small things that a def's proof wants. -/
namespace Qv
open PySem PySem.Spec PyProof.Rows L2 HotX
section
variable {Z : Nm} {W : WX} {F : FT} {X : Cx}
def rIsV (Z : Nm) (T : String) : List V → Hp → VK → Prop := fun xs H Q => ∃ a c, Z.xa = some (a, c) ∧ xs = [.ref a, .ty T] ∧ Q (.bl true) H
theorem call_isV {T : String} (hx : HotE X Z) (hk : ∀ c a, Z.xa = some (a, c) → ExcC X.K (Z.ca c) ∧ PySem.W.kitOne X.K (.ref (Z.ca c)) (.type T) = some true) : CallR X (.builtin "isinstance") (rIsV Z T) := by
  intro pins s σ H xs us Q I r h
  obtain ⟨a, c, h1, rfl, q⟩ := h
  obtain ⟨a', c', oe, vs, e1, e2, e3, e4, e5, e6⟩ := hx
  rw [h1] at e1
  cases e1
  obtain ⟨C, ek⟩ := hk c a h1
  cases r with
  | cons rx rr =>
    cases rr with
    | cons rt rr =>
      cases rr
      cases rx
      cases rt
      have J : PySem.W.InstAt s.heap a oe (Z.ca c) none := by
        obtain ⟨oc, od, oda, osl⟩ := oe
        obtain ⟨z1, z2⟩ := e3
        dsimp only at z1 z2 e4
        subst z1 z2 e4
        exact ⟨(I.pin _ (List.mem_append.mpr (.inl e2))).1, rfl, rfl, trivial⟩
      exact PySem.W.kia_one (PySem.W.handS_kitx_exc C.hg C.hk C.hs C.hd C.ha C.hn C.ht C.hm) I.kIn J ek (fun z => nomatch z) fun tk => ⟨.bl _, H, I.kept (t' := tk) fun _ _ z => z, rfl, q⟩
theorem s_isV {T : String} {a : E} {e : Expr} {y : Str} {p p2 pos : Pos} (hx : HotE X Z) (hk : ∀ c a, Z.xa = some (a, c) → ExcC X.K (Z.ca c) ∧ PySem.W.kitOne X.K (.ref (Z.ca c)) (.type T) = some true) (hg : Gl X "isinstance") (hm : X.mg "isinstance" = none)
    (hg2 : Gl X y) (hm2 : X.mg y = none) (hv2 : bootBuiltins y = some (.type T)) (hn2 : y ≠ "__name__") (hdb2 : (y == ("__debug__" : Str)) = false)
    (ha : PE X e (rdE Z W F a)) (hp : plainE e = true) : PE X (.Call (.Name "isinstance" p) [e, .Name y p2] [] pos) (rdE Z W F (.bi .isV (.cons a .nil))) := by
  have h2 : PE X (.Name y p2) (tC (.ty T)) := pe_bltn hg2 hm2 hv2 rfl hn2 hdb2
  refine (pe_callB (call_isV (T := T) hx hk) hg hm (by decide +kernel) (pa_cons ha (pa_cons h2 pa_nil) (star_cons hp)) (by decide) (by decide) (star_cons hp) rfl).impQ fun σ H Q h => ?_
  obtain ⟨ρ, s, m, h⟩ := h
  have h : Pst Z W (rRV Z σ) ρ s σ H (((dE F a s).bind fun x s => (deref x s).bind fun v => (pure [v] : M (List PV))).bind fun vs => M.ofO (opBi .isV vs)) Q := h
  refine ⟨ρ, s, m, Pst.bind (rel2 := rRV Z σ) m (Pst.assoc h) fun ρ1 s1 H1 r x e n kx q => ?_⟩
  have q : Pst Z W (rRV Z σ) ρ s σ H ((deref r >>= fun v => M.ofO (opBi .isV [v])) s1) Q := Pst.assoc q
  obtain ⟨v, h1, q2⟩ := Pst.deref n.sim kx (q.later m n)
  obtain ⟨r, e2, q3⟩ := Pst.res n.sim q2
  cases v with
  | exn c =>
    cases e2
    rcases h1 with h1 | ⟨_, _, h1⟩
    · cases h1 with
      | exn ea => exact ⟨_, c, ea, rfl, q3.fr0 (.bl _)⟩
    · cases h1
  | _ => cases e2
/-- a subscript as a target -/
def rdX (bs : Bs) (Z : Nm) (W : WX) (F : FT) (i : Nat) (ck : E) : TG := fun yv σ H Qn => ∃ (ρ : List Addr) (s : Sta) (y : PV) (f : Unit → M Fl) (D : Ends), SimB bs Z ρ s σ H ∧ Rp Z ρ H y yv ∧ SPst bs Z W ρ H ((ixM i (dE F ck) y s).bind f) D ∧
  ∀ ρ' s' H', SimB bs Z ρ' s' σ H' → Kp ρ H ρ' H' → SPst bs Z W ρ' H' (f () s') D → Qn σ H'
theorem pg_ix {bs : Bs} {i : Nat} {ck : E} {x : Str} {ke : Expr} {p1 p2 : Pos} (hN : X.N[i]? = some x) (hv : Vis X.env.scope x) (hd : (x == ("__debug__" : Str)) = false) (hcd : (x == ("__classdict__" : Str)) = false) (hk : PE X ke (rdE Z W F ck))
    (ha : ∀ v, assign (.Subscript (.Name x p1) ke p2) X.env v = (do
      let ov ← holding [v] (eval (.Name x p1) X.env)
      let iv ← holding [v, ov] (eval ke X.env)
      standAt p2
      holding [v, ov, iv] (setItem ov iv v)
      release [v, ov, iv] [])) : PG X (.Subscript (.Name x p1) ke p2) (rdX bs Z W F i ck) := by
  refine (pg_sub (pe_var (pos := p1) hN hv hd hcd) (PE.frz hk) set_list ha).impQ fun yv σ H Qn h => ?_
  obtain ⟨ρ1, s1, y, f, D, m1, k, q, cont⟩ := h
  have q : SPst bs Z W ρ1 H (((ownAt i s1).bind fun _ s => (dE F ck s).bind fun r s => (frz r s).bind fun k s => (ownAt i s).bind fun c s => (M.ofO (setIx c k y) s).bind fun c s => putM i (.own c) s).bind f) D := q
  rcases own_cases i s1 with ⟨v0, e0, e1⟩ | e1
  · rw [e1] at q
    have q : SPst bs Z W ρ1 H (((dE F ck s1).bind fun r s => (frz r s).bind fun k s => (ownAt i s).bind fun c s => (M.ofO (setIx c k y) s).bind fun c s => putM i (.own c) s).bind f) D := q
    have q : SPst bs Z W ρ1 H (((dE F ck >>= frz) s1).bind fun k s => ((ownAt i s).bind fun c s => (M.ofO (setIx c k y) s).bind fun c s => putM i (.own c) s).bind f) D := by
      have e : (((dE F ck s1).bind fun r s => (frz r s).bind fun k s => (ownAt i s).bind fun c s => (M.ofO (setIx c k y) s).bind fun c s => putM i (.own c) s).bind f) = (((dE F ck >>= frz) s1).bind fun k s => ((ownAt i s).bind fun c s => (M.ofO (setIx c k y) s).bind fun c s => putM i (.own c) s).bind f) := by
        show _ = ((dE F ck s1).bind frz).bind _
        cases dE F ck s1 with
        | bad => rfl
        | exc c s => rfl
        | ok r s =>
          show ((frz r s).bind _).bind f = (frz r s).bind _
          cases frz r s <;> rfl
      rw [e] at q
      exact q
    obtain ⟨p, ep, ow⟩ := m1.sim.own i v0 (slot_get e0 (fun z => nomatch z))
    refine ⟨_, ep, ρ1, s1, m1.sim, SPst.expr m1 q fun ρ2 s2 H2 kk kv e n2 k2 q => ?_⟩
    have k2 : Rp Z ρ2 H2 kk kv := k2
    have k1 : Rp Z ρ2 H2 y yv := k.mono (n2.kp m1.sim)
    rcases own_cases i s2 with ⟨v1, e2, e3⟩ | e3
    · rw [e3] at q
      have q : SPst bs Z W ρ1 H (((M.ofO (setIx v1 kk y) s2).bind fun c s => putM i (.own c) s).bind f) D := q
      have ei := slot_get e2 (fun z => nomatch z)
      obtain ⟨p', ep', ow'⟩ := n2.sim.own i v1 ei
      rw [ep] at ep'
      cases ep'
      cases ow' with
      | @lst _ xs vs hL rL =>
        cases e4 : setIx (.lst xs) kk y with
        | none => rw [e4] at q; exact False.elim q
        | some c =>
          rw [e4] at q
          have q : SPst bs Z W ρ1 H (f () (s2.put i (.own c))) D := q
          obtain ⟨j, rfl, hj, rfl⟩ := setIx_lst e4
          cases k2
          refine ⟨p, vs, j, j, rfl, rfl, hL, ixN_nat (by rw [← rL.length]; exact hj), ?_⟩
          have nx := Nxt.updOwn n2.sim ei ep (Ow.upd hL (rL.set j k1))
          have kp := (n2.kp m1.sim).trans (nx.kp n2.sim)
          exact cont ρ2 _ _ ((m1.nxt n2).nxt nx) kp (q.later kp)
    · rw [e3] at q
      exact False.elim q
  · rw [e1] at q
    exact False.elim q
/-- x[..], y[..] = a, b -/
theorem st_ix2 {bs : Bs} {i j : Nat} {k l : E} {as : E} {ta tb a b : Expr} {kt k2 : Nat} {pt pe pos : Pos} (hc : X.calm = true) (h1 : PG X ta (rdX bs Z W F i k)) (h2 : PG X tb (rdX bs Z W F j l)) (p1 : plainE ta = true) (p2 : plainE tb = true) (ha : PA X [a, b] (rdA Z W F as))
    (hs : swapsWithSole [.Tuple [ta, tb] kt pt] (.Tuple [a, b] k2 pe) pos.line X.env = pure false) (hw : swappedStores [.Tuple [ta, tb] kt pt] (.Tuple [a, b] k2 pe) X.env = pure none) :
    PS X (.Assign [.Tuple [ta, tb] kt pt] (.Tuple [a, b] k2 pe) pos) (rdS bs Z W F (.ix2 i k j l as)) := by
  have hp : [ta, tb].all plainE = true := by rw [List.all_cons, List.all_cons, p1, p2]; rfl
  refine (ps_asg (pe_tup ha) (pg_tup hc (pgs_cons h1 (pgs_cons h2 pgs_nil (by rw [assignEach_cons p2]; rfl)) (by rw [assignEach_cons p1]; rfl)) (assignEach_len [ta, tb] X.env) (assignEach_any hp)) hs hw rfl).impQ fun D σ H h => ?_
  obtain ⟨ρ, s, m, h⟩ := h
  have h : SPst bs Z W ρ H ((dA F as s).bind fun vs => (match vs with
    | [v, u] => (do
      ixM i (dE F k) v
      ixM j (dE F l) u
      pure .nx)
    | _ => M.bad : M Fl)) D := h
  refine ⟨ρ, s, m.sim, SPst.expr m h fun ρ1 s1 H1 vs xs e n kv q => ?_⟩
  have kv : Rps Z ρ1 H1 vs xs := kv
  have m1 := m.nxt n
  cases kv with
  | nil => exact False.elim q
  | cons r1 r2 =>
    rename_i v vs x xs
    cases r2 with
    | nil => exact False.elim q
    | cons r2 r3 =>
      rename_i u vs y xs
      cases r3 with
      | cons _ _ => exact False.elim q
      | nil =>
        refine ⟨by show 2 ≤ sizeLine; decide, fun p hp => ?_⟩
        have sm : Same H1 (upd H1 p (.tup [x, y])) := same_upd hp
        have m2 := m1.nxt (Nxt.same m1.sim sm)
        have kps := kp_same (ρ := ρ1) sm
        have q : SPst bs Z W ρ H ((ixM i (dE F k) v s1).bind fun _ s => (ixM j (dE F l) u s).bind fun _ => pure .nx) D := q
        have q2 := q.later ((n.kp m.sim).trans kps)
        refine ⟨p, [x, y], rfl, .inl (.inl upd_same), rfl, x, [y], rfl, ρ1, s1, v, _, D, m2, r1.mono kps, q2, fun ρ3 s3 H3 m3 k3 q3 => ?_⟩
        refine ⟨y, [], rfl, ρ3, s3, u, _, D, m3, (r2.mono kps).mono k3, q3, fun ρ4 s4 H4 m4 k4 q4 => ?_⟩
        exact ⟨rfl, q4 ρ4 σ H4 m4 .refl⟩
/-- the script, where the written part holds no list -/
theorem ints_rp {ρ : List Addr} {H : Hp} : ∀ ns : List Int, Rps Z ρ H (ns.map .int) (ns.map V.int)
  | [] => .nil
  | n :: ns => .cons (.int n) (ints_rp ns)
theorem mem_look {K : List (Addr × Obj)} {a : Addr} {o : Obj} (h : K.lookup a = some o) : (a, o) ∈ K := by
  induction K with
  | nil => cases h
  | cons p r ih =>
    obtain ⟨b, u⟩ := p
    rw [List.lookup_cons] at h
    split at h
    · rename_i e
      cases h
      rw [beq_iff_eq.mp e]
      exact List.mem_cons_self
    · exact List.mem_cons_of_mem _ (ih h)
theorem rp_script {K : PySem.W.Frag} {H : Hp} {ρ : List Addr} {a : Addr} {ns : List Int} (nl : K.all (fun p => p.2.cls != .type "list") = true) (h : SqL K H a (ns.map V.int)) : Rp Z ρ H (.lst (ns.map .int)) (.ref a) ∨ H a = some (.lst (ns.map V.int)) := by
  rcases h with (h | ⟨o, h⟩) | ⟨o, its, n, h1, h2, h3⟩
  · exact .inr h
  · exact .inl (.lst h (ints_rp ns))
  · exfalso
    have := List.all_eq_true.mp nl (a, o) (mem_look h1)
    rw [h2] at this
    simp at this
/-- a promise that is asked of a list in its own right: it is frozen first -/
theorem fn_frz {P : Program} {w : World} {K : PySem.W.Frag} {mg : Str → Option Value} {base : Heap} {k : Nat} {f : Addr} {fd : FuncData} {ps : List Str} {sp : Sp} (Fo : FnOk P w K mg base (L2N.CX P w) k f fd ps sp) :
    FnOk P w K mg base (L2N.CX P w) k f fd ps (fun vs H Q E => vs.length = ps.length ∧ (sp vs H Q E ∨ ∃ a xs, H a = some (.lst xs) ∧ ∀ o, sp vs (upd H a (.frz o (.lst xs))) Q E)) := by
  refine ⟨fun vs H Q E h => h.1, fun A outer s H args us vs Q E hr e0 hb rv h => ?_⟩
  rcases h.2 with h | ⟨a, xs, ha, h⟩
  · exact Fo.run A outer s H args us vs Q E hr e0 hb rv h
  obtain ⟨z, its, n, r, e⟩ := (show ObjOk P w H s.heap a (.lst xs) from e0.hok a _ ha)
  have ne : ∀ b u, H b = some u → (∀ xs, u ≠ .lst xs) → b ≠ a := fun b u q w z => by
    rw [z, ha] at q
    exact w xs (Option.some.inj q).symm
  have nn : ∀ b, H b = none → upd H a (.frz { cls := .type "list", data := .seq its.toArray n } (.lst xs)) b = none := fun b q => by
    rw [upd_ne fun z => by rw [z, ha] at q; cases q]
    exact q
  have hok : HOk P w (upd H a (.frz { cls := .type "list", data := .seq its.toArray n } (.lst xs))) s.heap := fun b u q => by
    by_cases hb : b = a
    · subst hb
      rw [upd_same] at q
      cases q
      exact ⟨e, z, its, n, r, e⟩
    · rw [upd_ne hb] at q
      refine (e0.hok b u q).stay (fun c v _ q => q) (fun c q => ?_) fun c xs q => ?_
      · rw [upd_ne (ne c _ q fun _ z => nomatch z)]; exact q
      · rw [upd_ne (ne c _ q fun _ z => nomatch z)]; exact q
  obtain ⟨a1, a2, a3, a4, a5, a6, a7, a8⟩ := e0
  refine codeAny_mono (Fo.run A outer s _ args us vs Q E hr ⟨a1, a2, fun b o q => ⟨(a3 b o q).1, nn b (a3 b o q).2⟩, a4, a5, fun b hb => nn b (a6 b hb), hok, a8⟩ hb rv (h _)) fun r s' hq => ?_
  have up : ∀ b u, H b = some u → (∀ xs, u ≠ .lst xs) → upd H a (.frz { cls := .type "list", data := .seq its.toArray n } (.lst xs)) b = some u := fun b u q w => by
    rw [upd_ne (ne b u q w)]; exact q
  cases r with
  | error e =>
    obtain ⟨a', B, H', cls, d, rfl, fl, hok', ub, na, os, ag, hE⟩ := (show L2N.CX P w outer _ s E e s' from hq)
    exact ⟨a', B, H', cls, d, rfl, fl, hok', ⟨fun b o q n hb => ub.keep b o q (nn b n) hb, ub.slot, fun b o q n => ub.free b o q (nn b n), ub.there, fun b xs q => ub.tups b xs (up b _ q fun _ z => nomatch z), fun b o v q => ub.frzs b o v (up b _ q fun _ z => nomatch z), fun b ps q => ub.tbls b ps (up b _ q fun _ z => nomatch z)⟩, na, os, ag, hE⟩
  | ok fl =>
    cases fl with
    | ret u =>
      obtain ⟨v, H', os, bare, un, hok', r', q⟩ := (show CE outer P w _ s Q u s' from hq)
      exact ⟨v, H', os, bare, ⟨fun b o q n hb hx => un.keep b o q (nn b n) hb hx, fun b o q n hb hx => un.slot b o q (nn b n) hb hx, fun b o q n hx => un.free b o q (nn b n) hx, un.there, fun b xs q => un.tups b xs (up b _ q fun _ z => nomatch z), fun b o v q => un.frzs b o v (up b _ q fun _ z => nomatch z), fun b ps q => un.tbls b ps (up b _ q fun _ z => nomatch z)⟩, hok', r', q⟩
    | next => exact False.elim hq
    | brk => exact False.elim hq
    | cont => exact False.elim hq
theorem room65 {k : Nat} {A : Around} (r : Room k A) : A.units + 65 < cLine := by have := r.un; omega
theorem roomH65 {k : Nat} {A : Around} (r : L2H.RoomH k A) : A.units + 65 < cLine := by have := r.un; omega
theorem takesF : L2N.Takes X (fun _ _ _ _ => False) := fun _ _ ⟨_, _, _, _, _, _, _, _, _, _, _, _, _, _, _, _, w⟩ => w.elim
theorem cb_cx (hf : ∀ x, X.fn x = true) (ok : X.Ok) : CB X := fun x c e => by
  have h1 := ok.cab x c (hf x) e
  refine ⟨?_, fun z => ?_⟩
  · cases q : X.base.get? c with
    | none => rfl
    | some o => exact absurd (Nat.lt_of_lt_of_le (Heap.lt_size q) (Nat.le_trans ok.bsz h1)) (Nat.lt_irrefl _)
  · obtain ⟨_, o, e, _⟩ := ok.funs.mem z
    exact absurd (Nat.lt_of_lt_of_le (Heap.lt_size e) h1) (Nat.lt_irrefl _)
def blkCk (N : List Str) (sc scope : Scope) (own : List (Str × Nat)) : Bool :=
  decide (scope.kind = .function) && scope.names.all (fun y => decide (scope.names.lookup y.1 = some y.2)) && own.all (fun p => decide (N[p.2]? = some p.1)) &&
    scope.names.all (fun y => !decide (y.2 = .free) || decide (sc.names.lookup y.1 = some .cell) || decide (sc.names.lookup y.1 = some .free)) &&
    scope.names.all (fun y => !(decide (y.2 = .local) || decide (y.2 = .cell)) || decide (y.1 ∈ own.map (·.1)) || decide (y.1 ∉ N))
theorem blk_by {N : List Str} {sc scope : Scope} {own : List (Str × Nat)} (h : blkCk N sc scope own = true) : BlkOk N sc scope own := by
  unfold blkCk at h
  simp only [Bool.and_eq_true, Bool.or_eq_true, Bool.not_eq_true', decide_eq_true_eq, List.all_eq_true, decide_eq_false_iff_not, Bool.or_eq_false_iff] at h
  obtain ⟨⟨⟨⟨h1, h2⟩, h3⟩, h4⟩, h5⟩ := h
  refine ⟨h1, h2, h3, fun y hy e => ?_, fun y hy e => ?_⟩
  · rcases h4 y hy with (z | z) | z
    · exact absurd e z
    · exact .inl z
    · exact .inr z
  · rcases h5 y hy with (⟨z1, z2⟩ | z) | z
    · exact e.elim (fun e => absurd e z1) fun e => absurd e z2
    · exact .inl z
    · exact .inr z
theorem kit_ref {K : PySem.W.Frag} {t : Value} {C : Addr} {b : Bool} (hi : PySem.W.isClsIn K C = true) (ht : PySem.W.typeIn K (.ref C) = some (.type "type")) (hs : PySem.W.subIn K t (.ref C) = some b) (hr : t = .ref C → b = true) : PySem.W.kitOne K t (.ref C) = some b := by
  unfold PySem.W.kitOne
  split
  · rename_i e
    rw [hr (beq_iff_eq.mp e)]
  · unfold PySem.W.kitCls
    have h2 : (PySem.W.clsIn K C).isSome = true := hi
    simp only [h2, ht, hs]
    rfl
theorem kit_type {K : PySem.W.Frag} {C : Addr} {T : String} {b : Bool} (hm : PySem.W.kitMeta T = true) (hs : PySem.W.subIn K (.ref C) (.type T) = some b) : PySem.W.kitOne K (.ref C) (.type T) = some b := by
  unfold PySem.W.kitOne
  rw [if_neg (by simp)]
  show (if PySem.W.kitMeta T = true then PySem.W.subIn K (.ref C) (.type T) else none) = some b
  rw [if_pos hm]
  exact hs
theorem exm_cls {K : PySem.W.Frag} {t : Value} {C : Addr} {b : Bool} (h1 : PySem.W.subIn K (.ref C) (.type "BaseException") = some true) (hi : PySem.W.isClsIn K C = true) (ht : PySem.W.typeIn K (.ref C) = some (.type "type")) (hs : PySem.W.subIn K t (.ref C) = some b) : PySem.W.exmOne K t (.ref C) = some b := by
  unfold PySem.W.exmOne
  have h2 : (PySem.W.clsIn K C).isSome = true := hi
  rw [if_pos (by rw [h1]; rfl)]
  unfold PySem.W.kitCls
  simp only [h2, ht, hs]
  rfl
end
/-- how many items a target takes -/
def tgLen : Tg → Option Nat
  | .nil => some 0
  | .cons _ ts => (tgLen ts).map (· + 1)
  | _ => none
theorem setTgs_bad : ∀ (ts : Tg) (n : Nat), tgLen ts = some n → ∀ (vs : List PV) (s : Sta), n ≠ vs.length → setTgs ts vs s = .bad
  | .nil, n, h, vs, s, hn => by
    cases h
    cases vs with
    | nil => exact absurd rfl hn
    | cons _ _ => rfl
  | .cons t ts, n, h, vs, s, hn => by
    cases e : tgLen ts with
    | none => simp [tgLen, e] at h
    | some m =>
      simp [tgLen, e] at h
      subst h
      cases vs with
      | nil => rfl
      | cons v vs =>
        show (setTg t v s).bind (fun _ => setTgs ts vs) = .bad
        cases e1 : setTg t v s with
        | bad => rfl
        | exc c s' => exact absurd e1 (setTg_exc t v s c s')
        | ok u s1 => exact setTgs_bad ts m e vs s1 fun z => hn (congrArg (· + 1) z)
  | .nm _, n, h, vs, s, hn => by cases h
  | .tp _, n, h, vs, s, hn => by cases h
theorem lamAt_by {Z : Nm} {X : Cx} {d : Nat} {is : List Nat} {params : Arguments} {body : Expr} {scope : Scope} {pos : Pos} {c P : Addr} {nm : Nat → Nat → Str} {lps fr : List Str} (tb : LamX.TabB X.base X.mg c P) (hc : X.env.code = .ref c) (hm : (P, nm) ∈ Z.tbs) (hn : nm pos.line pos.col = X.env.qual ++ "<lambda>") (hu : ∀ p ∈ Z.tbs, p.1 = P → p.2 = nm)
    (la : Z.la d = ⟨X.env.qual ++ "<lambda>", params, body, scope, lps, fr⟩) (df : defaultsOf params X.env = ([], []))
    (h1 : scope.names.all (fun y => !decide (y.2 = .free) || decide (X.env.scope.names.lookup y.1 = some .cell) || decide (X.env.scope.names.lookup y.1 = some .free)) = true) (h2 : fr.all (fun y => decide ((y, NameKind.free) ∈ scope.names)) = true)
    (h3 : scope.names.all (fun y => !decide (y.2 = .free) || decide (y.1 ∈ fr)) = true) (hjs : is.map (fun j => X.N[j]?) = fr.map some) : LamAt Z X d is params body scope pos := by
  have hf : ∀ y ∈ scope.names, y.2 = .free → X.env.scope.names.lookup y.1 = some .cell ∨ X.env.scope.names.lookup y.1 = some .free := fun y hy e => by
    have := List.all_eq_true.mp h1 y hy
    simp only [Bool.or_eq_true, Bool.not_eq_true', decide_eq_true_eq, decide_eq_false_iff_not] at this
    rcases this with (z | z) | z
    · exact absurd e z
    · exact .inl z
    · exact .inr z
  refine ⟨⟨c, P, nm, tb, hc, hm, hn, hu⟩, ⟨lps, fr, la, fun ok => NdefX.Caps.made ok hf (fun y hy => of_decide_eq_true (List.all_eq_true.mp h2 y hy)) hjs, fun y c e => ?_⟩, df, hf⟩
  rcases cloFrom_mem (PySem.mem_of_lookup e) with z | ⟨z, _⟩
  · cases z
  · have := List.all_eq_true.mp h3 _ z
    simp only [Bool.or_eq_true, Bool.not_eq_true', decide_eq_true_eq, decide_eq_false_iff_not] at this
    exact this.elim (fun q => absurd trivial q) id
theorem callF_np {D : Nat → Option Def} {n f : Nat} {d : Def} (h : D f = some d) : ∀ as obs, callF D n f as obs ≠ .bad → as.length = d.np := by
  intro as obs hb
  cases n with
  | zero => exact absurd rfl hb
  | succ n =>
    have e : callF D (n + 1) f as obs = if as.length = d.np then endC d (dS (callF D n) d.body ⟨slots0 d as, obs⟩) else .bad := by
      show (match D f with | none => Qv.CR.bad | some d => if as.length = d.np then endC d (dS (callF D n) d.body ⟨slots0 d as, obs⟩) else .bad) = _
      rw [h]
    rw [e] at hb
    split at hb
    · assumption
    · exact absurd rfl hb
theorem fn_zero {P : Program} {w : World} {K : PySem.W.Frag} {mg : Str → Option Value} {base : Heap} {Z : Nm} {D : Nat → Option Def} {f k np : Nat} {lt : Bool} {A : Addr} {fd : FuncData} {ps : List Str} (hps : ps.length = np) :
    FnOk P w K mg base (L2N.CX P w) k A fd ps (spF Z lt (callF D 0 f) np) :=
  ⟨fun vs H Q E h => by rw [hps]; exact h.1, fun A outer s H args us vs Q E _ _ _ _ h => by
    obtain ⟨_, ρ, as, obs, lp, _, _, h⟩ := h
    exact False.elim h⟩
theorem lam_zero {P : Program} {w : World} {K : PySem.W.Frag} {mg : Str → Option Value} {base : Heap} {Z : Nm} {D : Nat → Option Def} {d k : Nat} : LamOk P w K mg base k Z d (callF D 0 d) := by
  intro A outer s H H0 us vs wvs f ρ ws as obs Q E _ _ _ _ _ _ _ _ _ _ h
  exact False.elim h
theorem fnE_zero {P : Program} {w : World} {K : PySem.W.Frag} {mg : Str → Option Value} {base : Heap} {Z : Nm} {D : Nat → Option Def} {f k n : Nat} {A : Addr} {fd : FuncData} {ps : List Str} : FnE P w K mg base k n A fd ps Z (callF D 0 f) := by
  intro A outer s H args Q E p c ρ obs _ _ _ _ _ _ _ _ h
  exact False.elim h
end Qv
end
section
set_option Elab.async false
set_option linter.all false
set_option autoImplicit false
set_option maxRecDepth 100000
set_option maxHeartbeats 4000000
/-! Q25: texts: f-strings, slices backwards. -/
namespace Qv
open PySem PySem.Spec PyProof.Rows L2
section
variable {Z : Nm} {W : WX} {F : FT} {X : Cx}
/-- one operand, and an operation -/
theorem rd1 {a c : E} {g : PV → Option RV} (hc : ∀ s, dE F c s = (do
      let x ← dE F a
      let x ← deref x
      M.ofO (g x) : M RV) s) {σ : Sg} {H : Hp} {Q : VK} (h : rdE Z W F c σ H Q) : rdE Z W F a σ H fun x H1 => ∃ ρ u r, Rd1 Z ρ H1 u x ∧ g u = some r ∧ Res Z ρ H1 r Q := by
  obtain ⟨ρ, s, m, h⟩ := h
  rw [hc] at h
  refine ⟨ρ, s, m, Pst.bind (rel2 := rRV Z σ) m h fun ρ1 s1 H1 ra x e n k q => ?_⟩
  obtain ⟨v1, h1, q4⟩ := Pst.deref n.sim k (q.later m n)
  obtain ⟨r, e4, q5⟩ := Pst.res n.sim q4
  exact ⟨ρ1, v1, r, h1, e4, q5⟩
theorem s_fmt {a : E} {e : Expr} {pos : Pos} (ha : PE X e (rdE Z W F a)) : PE X (.FormattedValue e (-1) none pos) (rdE Z W F (.fmt a)) := by
  refine (pe_fmt ha).impQ fun σ H Q h => ?_
  obtain ⟨ρ0, s0, m0, h⟩ := rd1 (g := opFmt) (fun s => rfl) h
  refine ⟨ρ0, s0, m0, h.imp fun x H1 ⟨ρ, u, r, hu, hr, q⟩ => ?_⟩
  cases u with
  | str y =>
    have hr : (if lenOk y.length then some (RV.fr (.str y)) else none) = some r := hr
    split at hr
    · rename_i hk
      cases hr
      exact .inl ⟨y, hu.str, Nat.le_of_lt (lenOk_line hk), q.fr0 (.str _)⟩
    · cases hr
  | int i =>
    have hr : (if decide (i.natAbs.log2 < 1920) then some (RV.fr (.str (Str.ofString (toString i)))) else none) = some r := hr
    split at hr
    · rename_i hk
      cases hr
      exact .inr ⟨i, hu.int, of_decide_eq_true hk, q.fr0 (.str _)⟩
    · cases hr
  | _ => cases hr
/-- the parts of an f-string -/
structure PJs (X : Cx) (Z : Nm) (W : WX) (F : FT) (es : List Expr) (as : E) : Prop where
  ex : ∃ ts, PJ X es ts ∧ ∀ acc σ H Q, rd Z W (fun _ => rEq Str) (dJ F as acc) σ H Q → tJs ts acc σ H Q
theorem j_nil : PJs X Z W F [] .nil := ⟨[], .nil, fun acc σ H Q h => by
  obtain ⟨ρ, s, m, h⟩ := h
  exact h ρ H acc (.refl m) rfl⟩
theorem j_cons {a as : E} {e : Expr} {es : List Expr} (ha : PE X e (rdE Z W F a)) (r : PJs X Z W F es as) : PJs X Z W F (e :: es) (.cons a as) := by
  obtain ⟨ts, hp, hq⟩ := r.ex
  refine ⟨rdE Z W F a :: ts, .cons ha hp, fun acc σ H Q h => ?_⟩
  obtain ⟨ρ, s, m, h⟩ := h
  have h : Pst Z W (rEq Str) ρ s σ H ((do
    let x ← dE F a
    let x ← deref x
    let y ← asStr x
    if lenOk (acc ++ y).length then dJ F as (acc ++ y) else M.bad : M Str) s) Q := h
  refine ⟨ρ, s, m, Pst.bind (rel2 := rEq Str) m h fun ρ1 s1 H1 ra x e n k q => ?_⟩
  obtain ⟨v, h1, q2⟩ := Pst.deref n.sim k (q.later m n)
  cases v with
  | str y =>
    have q2 : Pst Z W (rEq Str) ρ1 s1 σ H1 ((if lenOk (acc ++ y).length then dJ F as (acc ++ y) else M.bad : M Str) s1) Q := q2
    split at q2
    · rename_i hk
      exact ⟨y, h1.str, Nat.le_of_lt (lenOk_line hk), hq _ _ _ _ ⟨ρ1, s1, n.sim, q2⟩⟩
    · exact q2.elim
  | _ => exact q2.elim
theorem s_js {as : E} {v1 v2 : Expr} {rest : List Expr} {pos : Pos} (h : PJs X Z W F (v1 :: v2 :: rest) as) : PE X (.JoinedStr (v1 :: v2 :: rest) pos) (rdE Z W F (.js as)) := by
  obtain ⟨ts, hp, hq⟩ := h.ex
  refine (pe_joined hp).impQ fun σ H Q h => ?_
  obtain ⟨ρ, s, m, h⟩ := h
  have h : Pst Z W (rRV Z σ) ρ s σ H ((dJ F as Str.empty s).bind fun z => pure (RV.fr (.str z))) Q := h
  refine hq _ _ _ _ ⟨ρ, s, m, Pst.bind (rel2 := rRV Z σ) m h fun ρ1 s1 H1 z z' e n k q => ?_⟩
  cases k
  exact q ρ1 H1 _ n (Rp.str _)
theorem revt_range (n : Nat) : sliceRange ((n : Int) + 1 - 1) 0 (-1) = ((List.range n).map (1 + ·)).reverse := by
  unfold sliceRange
  have h1 : ¬ ((-1 : Int) > 0) := by decide
  by_cases h : (n : Int) + 1 - 1 > 0
  · have e : ((n : Int) + 1 - 1 - 0 - -1 - 1) / (- -1) = (n : Int) := by
      rw [show (- -1 : Int) = 1 by decide, Int.ediv_one]
      omega
    simp only [h1, if_false, h, if_true, e, Int.toNat_natCast]
    rw [← List.map_reverse, ← PySem.W.krv_range, List.map_map]
    apply List.map_congr_left
    intro k hk
    have := List.mem_range.mp hk
    simp only [Function.comp]
    omega
  · have e : n = 0 := by omega
    subst e
    simp
theorem revt_pick (items : Array Value) (h : 1 ≤ items.size) : slicePick items none (some 0) (some (-1)) = (items.toList.drop 1).reverse.toArray := by
  obtain ⟨n, hn⟩ : ∃ n, items.size = n + 1 := ⟨items.size - 1, by omega⟩
  unfold slicePick
  have hb : sliceBounds none (some 0) (some (-1)) items.size = ((n : Int) + 1 - 1, 0, -1) := by
    rw [hn]
    simp [sliceBounds]
    try omega
  rw [hb]
  show ((sliceRange ((n : Int) + 1 - 1) 0 (-1)).filterMap (items[·]?)).toArray = _
  rw [revt_range, List.filterMap_reverse]
  have := pick_run items 1 n
  rw [this]
  congr 2
  rw [List.take_of_length_le (by simp; omega)]
theorem s_revt {a : E} {e : Expr} {k k0 : Nat} {p0 p1 p2 p3 pos : Pos} (he : PE X e (rdE Z W F a)) : PE X (.Subscript e (.Slice none (some (.Constant (.int 0) k0 p0)) (some (.UnaryOp .USub (.Constant (.int 1) k p1) p2)) p3) pos) (rdE Z W F (.revt a)) := by
  refine ⟨fun pins s σ H Q I h => ?_⟩
  refine Subscript_ (thn (he.run pins s σ H (fun x H1 => ∃ ρ u r, Rd1 Z ρ H1 u x ∧ opRevT u = some r ∧ Res Z ρ H1 r Q) I (rd1 (g := opRevT) (fun s => rfl) h)) fun v s1 ⟨x, H1, I1, r1, q1⟩ => ?_)
  obtain ⟨ρ, u, r, hu, hr, q⟩ := q1
  have hst : PO X (some (.UnaryOp .USub (.Constant (.int 1) k p1) p2)) (tPart (tUn (rU fun i => .int (-i)) (tC (.int 1)))) := po_some (pe_un un_neg pe_int)
  have hs0 : PO X (some (.Constant (.int 0) k0 p0)) (tPart (tC (.int 0))) := po_some pe_int
  refine wpAny_Slice (thn (po_none.run pins s1 σ H1 (fun o H2 => o = none ∧ H2 = H1) I1 ⟨rfl, rfl⟩) fun vl s2 ⟨l, H2, I2, pl, el, e2⟩ => ?_)
  subst el e2
  refine thn (hs0.run pins s2 σ H2 (fun o H3 => o = some 0 ∧ H3 = H2) I2 ⟨0, rfl, rfl, rfl⟩) fun vu s3 ⟨u2, H3, I3, pu, eu, e3⟩ => ?_
  subst eu e3
  refine thn (hst.run pins s3 σ H3 (fun o H4 => o = some (-1) ∧ H4 = H3) I3 ⟨1, rfl, -1, rfl, rfl, rfl⟩) fun vs s4 ⟨o, H4, I4, ps, eo, e4⟩ => ?_
  subst eo e4
  have I5 : Inv X pins σ H4 { s4 with heap := s4.heap.push { cls := .type "slice", data := .fields #[vl, vu, vs] } } := I4.kept (t' := s4.toks) fun b ob q => Heap.get?_push_of_some _ q
  unfold opRevT at hr
  split at hr
  · rename_i x0 xs
    cases hr
    obtain ⟨p, ws, rfl, hp, rp⟩ := hu.lst
    cases r1
    obtain ⟨its, r, ht, hz⟩ := I5.list (.inl hp)
    have hlen := r.length
    have hl2 := rp.length
    have hpos : 1 ≤ its.toArray.size := by rw [List.size_toArray, ← hlen, ← hl2]; simp
    show wpAny (model X.prog X.w) X.A (subscriptTail e (.Slice none (some (.Constant (.int 0) k0 p0)) (some (.UnaryOp .USub (.Constant (.int 1) k p1) p2)) p3) (.ref p) (.ref s4.heap.objs.size)) (EP X pins σ Q) X.xe { s4 with heap := s4.heap.push { cls := .type "slice", data := .fields #[vl, vu, vs] } }
    refine tail_any (ops := [.ref p, .ref s4.heap.objs.size]) ht.isList.typeIs (PySem.slot_list_getitem.lookup) ?_ (by with_unfolding_all rfl)
    refine wpAny_getItem_list_slice ht.isList (Heap.IsSliceOf.new _ vl vu vs) pl pu ps (by decide) ?_ (by rw [List.size_toArray]; omega)
    rw [revt_pick _ hpos]
    refine ⟨.ref _, _, I5.laid (t' := s4.toks) (o := .lst (ws.drop 1).reverse) (fun b ob q => Heap.get?_push_of_some _ q) (Nat.le_refl _) ?_, rfl, q.newL (I5.hok.fresh (Nat.le_refl _)) (rp.drop 1).reverse⟩
    exact ⟨by rw [List.length_reverse, List.length_drop]; omega, _, 0, (Vals.drop 1 r).reverse, Heap.get?_push_size _ rfl⟩
  · cases hr
end
end Qv
end
section
open PySem PySem.W PyProof.Rows
set_option Elab.async false
set_option maxRecDepth 100000
set_option maxHeartbeats 0
open_top hd for PySem.Challenge.rw_anywheels_k14_texts_of_scripts
end
section
set_option Elab.async false
set_option linter.all false
set_option autoImplicit false
set_option maxRecDepth 100000
set_option maxHeartbeats 4000000
namespace K14
open PySem PySem.Spec PyProof.Rows L2 HotX Qv
/-- a way down a text -/
def eKids : Expr → List Expr
  | .Call f as _ _ => f :: as
  | .Compare l _ rs _ => l :: rs
  | .BinOp l _ r _ => [l, r]
  | .BoolOp _ vs _ => vs
  | .UnaryOp _ a _ => [a]
  | .IfExp t a b _ => [t, a, b]
  | .Tuple es _ _ => es
  | .List es _ => es
  | .Subscript a b _ => [a, b]
  | .ListComp e gs _ _ => e :: (match gs with | g :: _ => g.iter :: g.ifs | [] => [])
  | _ => []
def noE : Expr := .Name "" ⟨0, 0, 0, 0⟩
def eAt (e : Expr) : List Nat → Expr
  | [] => e
  | i :: is => eAt ((eKids e).getD i noE) is
def sKids : Stmt → List Stmt
  | .For _ _ b o _ => b
  | .While _ b _ _ => b
  | .If _ a b _ => a ++ b
  | s => defBody s
def sAt (s : Stmt) : List Nat → Stmt
  | [] => s
  | i :: is => sAt ((sKids s).getD i (.Pass ⟨0, 0, 0, 0⟩)) is
def sExpr : Stmt → Nat → Expr
  | .For _ e _ _ _, _ => e
  | .While e _ _ _, _ => e
  | .If e _ _ _, _ => e
  | .Assign _ e _, _ => e
  | .Return (some e) _, _ => e
  | .Expr e _, _ => e
  | _, _ => noE
def lamA : Expr → Arguments
  | .Lambda a _ _ _ => a
  | _ => ⟨[], [], none, [], [], none, []⟩
def lamB : Expr → Expr
  | .Lambda _ b _ _ => b
  | _ => noE
def lamS : Expr → Scope
  | .Lambda _ _ s _ => s
  | _ => ⟨.function, [], false, false, []⟩
/-! ### the text -/
def top (i : Nat) : Stmt := PySem.Challenge.pw_anywheels_k14_texts_of_scripts.main.body.getD i (.Pass ⟨0, 0, 0, 0⟩)
theorem sc0 : FnScope ["value", "low", "high"] ["value", "low", "high"] (defScope (top 13)) := ⟨rfl, rfl, rfl, by decide +kernel, rfl, by decide +kernel, by decide +kernel⟩
theorem sc1 : FnScope ["value", "low", "high"] ["value", "low", "high"] (defScope (top 14)) := ⟨rfl, rfl, rfl, by decide +kernel, rfl, by decide +kernel, by decide +kernel⟩
theorem sc2 : FnScope ["wheels", "value"] ["wheels", "value"] (defScope (top 15)) := ⟨rfl, rfl, rfl, by decide +kernel, rfl, by decide +kernel, by decide +kernel⟩
theorem sc3 : FnScope ["value", "deed"] ["value"] (defScope (top 16)) := ⟨rfl, rfl, rfl, by decide +kernel, rfl, by decide +kernel, by decide +kernel⟩
theorem sc4 : FnScope ["script"] ["script"] (defScope (top 17)) := ⟨rfl, rfl, rfl, by decide +kernel, rfl, by decide +kernel, by decide +kernel⟩
theorem sc5 : FnScope ["script", "item", "deed"] ["script"] (defScope (top 19)) := ⟨rfl, rfl, rfl, by decide +kernel, rfl, by decide +kernel, by decide +kernel⟩
theorem sc6 : FnScope ["script"] ["script"] (defScope (top 20)) := ⟨rfl, rfl, rfl, by decide +kernel, rfl, by decide +kernel, by decide +kernel⟩
theorem sc7 : FnScope ["word", "some", "number"] ["word"] (defScope (top 21)) := ⟨rfl, rfl, rfl, by decide +kernel, rfl, by decide +kernel, by decide +kernel⟩
theorem sc8 : FnScope ["value", "rows", "word", "line", "found"] ["value"] (defScope (top 22)) := ⟨rfl, rfl, rfl, by decide +kernel, rfl, by decide +kernel, by decide +kernel⟩
theorem sc9 : FnScope ["script", "k"] ["script", "k"] (defScope (top 24)) := ⟨rfl, rfl, rfl, by decide +kernel, rfl, by decide +kernel, by decide +kernel⟩
theorem sc10 : FnScope ["script", "k", "many", "base", "primes", "cell", "rest", "row", "j", "mash"] ["script", "k", "many", "base"] (defScope (top 25)) := ⟨rfl, rfl, rfl, by decide +kernel, rfl, by decide +kernel, by decide +kernel⟩
theorem sc11 : FnScope ["script", "k"] ["script", "k"] (defScope (top 26)) := ⟨rfl, rfl, rfl, by decide +kernel, rfl, by decide +kernel, by decide +kernel⟩
theorem sc12 : FnScope ["bag", "many", "draw"] ["bag", "many"] (defScope (top 27)) := ⟨rfl, rfl, rfl, by decide +kernel, rfl, by decide +kernel, by decide +kernel⟩
theorem sc13 : FnScope ["bag", "some"] ["bag", "some"] (defScope (top 28)) := ⟨rfl, rfl, rfl, by decide +kernel, rfl, by decide +kernel, by decide +kernel⟩
theorem sc14 : FnScope ["bag", "most", "wheels", "deeds", "turn", "wheel", "by", "kind"] ["bag", "most", "wheels"] (defScope (top 29)) := ⟨rfl, rfl, rfl, by decide +kernel, rfl, by decide +kernel, by decide +kernel⟩
theorem sc15 : FnScope ["e", "some", "labels", "label", "good"] ["e"] (defScope (top 30)) := ⟨rfl, rfl, rfl, by decide +kernel, rfl, by decide +kernel, by decide +kernel⟩
theorem sc16 : FnScope ["call", "e"] ["call"] (defScope (top 31)) := ⟨rfl, rfl, rfl, by decide +kernel, rfl, by decide +kernel, by decide +kernel⟩
theorem sc17 : FnScope ["script_so", "some", "one", "part"] ["script_so"] (defScope (top 32)) := ⟨rfl, rfl, rfl, by decide +kernel, rfl, by decide +kernel, by decide +kernel⟩
theorem sc18 : FnScope ["word", "bare"] ["word"] (defScope (top 33)) := ⟨rfl, rfl, rfl, by decide +kernel, rfl, by decide +kernel, by decide +kernel⟩
theorem sc19 : FnScope ["text", "some", "line", "deeds", "word", "found"] ["text"] (defScope (top 34)) := ⟨rfl, rfl, rfl, by decide +kernel, rfl, by decide +kernel, by decide +kernel⟩
theorem sc20 : FnScope ["bag", "text", "at", "way", "some", "line", "mark"] ["bag", "text"] (defScope (top 35)) := ⟨rfl, rfl, rfl, by decide +kernel, rfl, by decide +kernel, by decide +kernel⟩
theorem sc21 : FnScope ["script", "k", "bag", "script_so", "text", "turn", "bent", "due", "odd", "some"] ["script"] (defScope (top 36)) := ⟨rfl, rfl, rfl, by decide +kernel, rfl, by decide +kernel, by decide +kernel⟩
/-! ### the lambdas -/
def lam0 : Expr := eAt (sExpr (sAt (top 36) [6]) 0) [0, 1]
def lamD0 : LamD := ⟨"law.<locals>.<lambda>", lamA lam0, lamB lam0, lamS lam0, [], []⟩
def lam1 : Expr := eAt (sExpr (sAt (top 36) [3, 0]) 0) [0, 1]
def lamD1 : LamD := ⟨"law.<locals>.<lambda>", lamA lam1, lamB lam1, lamS lam1, [], ["text"]⟩
def lam2 : Expr := eAt (sExpr (sAt (top 36) [0, 6]) 0) [0, 1]
def lamD2 : LamD := ⟨"law.<locals>.<lambda>", lamA lam2, lamB lam2, lamS lam2, [], ["script_so"]⟩
def lam3 : Expr := eAt (sExpr (sAt (top 36) [0, 5, 0]) 0) [0, 1]
def lamD3 : LamD := ⟨"law.<locals>.<lambda>", lamA lam3, lamB lam3, lamS lam3, [], ["odd"]⟩
def lam4 : Expr := eAt (sExpr (sAt (top 36) [0, 4, 2]) 0) [0, 1]
def lamD4 : LamD := ⟨"law.<locals>.<lambda>", lamA lam4, lamB lam4, lamS lam4, [], ["bent"]⟩
def lam5 : Expr := eAt (sExpr (sAt (top 36) [0, 3]) 0) [1, 0, 1]
def lamD5 : LamD := ⟨"law.<locals>.<lambda>", lamA lam5, lamB lam5, lamS lam5, [], ["text"]⟩
/-! ### the core -/
/-- is_whole -/
def def0 : Def := ⟨3, 3,
  .seq (.ret (.an (.bi (.isA .int) (.cons (.var 0) .nil)) (.an (.nt (.bi (.isA .bool) (.cons (.var 0) .nil))) (.chn .le .le (.var 1) (.var 0) (.var 2))))) (.skip), false⟩
/-- is_row -/
def def1 : Def := ⟨3, 3,
  .seq (.ret (.an (.bi (.isA .tuple) (.cons (.var 0) .nil)) (.chn .le .le (.var 1) (.bi .len (.cons (.var 0) (.nil))) (.var 2)))) (.skip), false⟩
/-- is_deed -/
def def2 : Def := ⟨2, 2,
  .seq (.ifs (.orr (.nt (.call 1 (.cons (.var 1) (.cons (.cst (.int 2)) (.cons (.cst (.int 3)) (.nil)))))) (.orr (.nt (.bi (.isA .str) (.cons (.ix (.var 1) (.cst (.int 0))) .nil))) (.nt (.call 0 (.cons (.ix (.var 1) (.cst (.int 1))) (.cons (.cst (.int 0)) (.cons (.bin .sub (.var 0) (.cst (.int 1))) (.nil)))))))) (.seq (.ret (.cst (.bl false))) (.skip)) (.skip)) (.seq (.ifs (.cmp .eq (.bi .len (.cons (.var 1) (.nil))) (.cst (.int 2))) (.seq (.ret (.cmp .eq (.ix (.var 1) (.cst (.int 0))) (.cst (.str "zero")))) (.skip)) (.skip)) (.seq (.ret (.an (.cmp .inn (.ix (.var 1) (.cst (.int 0))) (.tup (.cons (.cst (.str "push")) (.cons (.cst (.str "turn")) (.nil))))) (.an (.call 0 (.cons (.ix (.var 1) (.cst (.int 2))) (.cons (.neg (.cst (.int 9))) (.cons (.cst (.int 9)) (.nil))))) (.cmp .ne (.ix (.var 1) (.cst (.int 2))) (.cst (.int 0)))))) (.skip))), false⟩
/-- is_script -/
def def3 : Def := ⟨1, 2,
  .seq (.ifs (.orr (.nt (.call 1 (.cons (.var 0) (.cons (.cst (.int 2)) (.cons (.cst (.int 2)) (.nil)))))) (.orr (.nt (.call 0 (.cons (.ix (.var 0) (.cst (.int 0))) (.cons (.cst (.int 1)) (.cons (.cst (.int 3)) (.nil)))))) (.nt (.call 1 (.cons (.ix (.var 0) (.cst (.int 1))) (.cons (.cst (.int 0)) (.cons (.cst (.int 4)) (.nil)))))))) (.seq (.ret (.cst (.bl false))) (.skip)) (.skip)) (.seq (.ret (.bi .all (.cons (.comp (.call 2 (.cons (.ix (.var 0) (.cst (.int 0))) (.cons (.var 1) (.nil)))) (.nm 1) (.seqI (.ix (.var 0) (.cst (.int 1)))) (.nil) [1]) (.nil)))) (.skip)), false⟩
/-- need_script -/
def def4 : Def := ⟨1, 1,
  .seq (.ifs (.nt (.call 3 (.cons (.var 0) (.nil)))) (.seq (.rais 0) (.skip)) (.skip)) (.skip), false⟩
/-- as_text -/
def def5 : Def := ⟨1, 3,
  .seq (.ret (.tx .join (.cst (.str "\n")) (.bin .add (.lst (.cons (.js (.cons (.cst (.str "wheels ")) (.cons (.fmt (.ix (.var 0) (.cst (.int 0)))) (.nil)))) (.nil))) (.comp (.tx .join (.cst (.str " ")) (.comp (.bi .str (.cons (.var 1) (.nil))) (.nm 1) (.seqI (.var 2)) (.nil) [1])) (.nm 2) (.seqI (.ix (.var 0) (.cst (.int 1)))) (.nil) [2])))) (.skip), false⟩
/-- script_text -/
def def6 : Def := ⟨1, 1,
  .seq (.exp (.call 4 (.cons (.var 0) (.nil)))) (.seq (.ret (.call 5 (.cons (.var 0) (.nil)))) (.skip)), false⟩
/-- item_in -/
def def7 : Def := ⟨1, 3,
  .seq (.asg 1 (.comp (.bi .str (.cons (.var 2) (.nil))) (.nm 2) (.rng2 (.neg (.cst (.int 9))) (.cst (.int 10))) (.nil) [2])) (.seq (.ret (.ite (.cmp .inn (.var 0) (.var 1)) (.bi .int (.cons (.var 0) (.nil))) (.var 0))) (.skip)), false⟩
/-- read_script -/
def def8 : Def := ⟨1, 5,
  .seq (.ifs (.nt (.bi (.isA .str) (.cons (.var 0) .nil))) (.seq (.rais 1) (.skip)) (.skip)) (.seq (.asg 1 (.comp (.bi .tuple (.cons (.comp (.call 7 (.cons (.var 2) (.nil))) (.nm 2) (.seqI (.tx .split (.var 3) (.cst (.str " ")))) (.nil) [2]) (.nil))) (.nm 3) (.seqI (.tx .split (.var 0) (.cst (.str "\n")))) (.nil) [3])) (.seq (.asg 4 (.tup (.cons (.ix (.ix (.var 1) (.cst (.int 0))) (.neg (.cst (.int 1)))) (.cons (.bi .tuple (.cons (.sl (.var 1) (.cst (.int 1)) (.nil)) (.nil))) (.nil))))) (.seq (.ifs (.orr (.nt (.call 3 (.cons (.var 4) (.nil)))) (.cmp .ne (.call 5 (.cons (.var 4) (.nil))) (.var 0))) (.seq (.rais 1) (.skip)) (.skip)) (.seq (.ret (.var 4)) (.skip))))), false⟩
/-- _law_cell -/
def def9 : Def := ⟨2, 2,
  .seq (.ifs (.cmp .lt (.var 1) (.bi .len (.cons (.var 0) (.nil)))) (.seq (.ret (.ix (.var 0) (.var 1))) (.skip)) (.skip)) (.seq (.ifs (.cmp .eq (.bi .len (.cons (.var 0) (.nil))) (.cst (.int 0))) (.seq (.ret (.bin .add (.bin .mul (.cst (.int 7919)) (.var 1)) (.cst (.int 101)))) (.skip)) (.skip)) (.seq (.ret (.bin .add (.bin .mod (.ix (.var 0) (.bin .mod (.var 1) (.bi .len (.cons (.var 0) (.nil))))) (.cst (.int 1000003))) (.bin .mul (.cst (.int 7919)) (.var 1)))) (.skip))), false⟩
/-- _law_draws -/
def def10 : Def := ⟨4, 10,
  .seq (.asg 4 (.tup (.cons (.cst (.int 2147483647)) (.cons (.cst (.int 2147483629)) (.cons (.cst (.int 2147483587)) (.cons (.cst (.int 2147483579)) (.cons (.cst (.int 2147483563)) (.cons (.cst (.int 2147483549)) (.cons (.cst (.int 2147483543)) (.cons (.cst (.int 2147483497)) (.nil))))))))))) (.seq (.asg 5 (.call 9 (.cons (.var 0) (.cons (.var 1) (.nil))))) (.seq (.asg 6 (.cst (.int 0))) (.seq (.ifs (.cmp .ge (.var 5) (.bin .pow (.cst (.int 10)) (.cst (.int 18)))) (.seq (.asg 6 (.var 5)) (.skip)) (.skip)) (.seq (.asg 7 (.lst (.nil))) (.seq (.fr (.nm 8) (.rng1 (.var 2)) (.seq (.asg 9 (.bin .mul (.bin .mod (.var 5) (.ix (.var 4) (.bin .mod (.var 8) (.cst (.int 8))))) (.bin .add (.cst (.int 48271)) (.bin .mul (.bin .mul (.cst (.int 2)) (.var 8)) (.var 8))))) (.seq (.asg 9 (.bin .add (.bin .add (.var 9) (.bin .mul (.bin .mul (.cst (.int 7919)) (.bin .add (.var 8) (.cst (.int 1)))) (.bin .add (.var 8) (.cst (.int 1))))) (.bin .mul (.cst (.int 104729)) (.var 1)))) (.seq (.asg 9 (.bin .mod (.var 9) (.ix (.var 4) (.bin .mod (.bin .add (.bin .mul (.cst (.int 3)) (.var 8)) (.var 1)) (.cst (.int 8)))))) (.seq (.asg 9 (.bin .mod (.bin .mul (.bin .mul (.var 9) (.var 9)) (.var 9)) (.ix (.var 4) (.bin .mod (.bin .add (.var 8) (.cst (.int 5))) (.cst (.int 8)))))) (.seq (.ifs (.cmp .gt (.var 6) (.cst (.int 0))) (.seq (.asg 9 (.var 6)) (.skip)) (.skip)) (.seq (.app 7 (.bin .mod (.var 9) (.var 3))) (.seq (.asg 6 (.bin .fdv (.var 6) (.var 3))) (.skip))))))))) (.seq (.ret (.var 7)) (.skip))))))), false⟩
/-- _law_bag -/
def def11 : Def := ⟨2, 2,
  .seq (.ret (.call 10 (.cons (.var 0) (.cons (.var 1) (.cons (.cst (.int 150)) (.cons (.cst (.int 27720)) (.nil))))))) (.skip), false⟩
/-- _law_take -/
def def12 : Def := ⟨2, 3,
  .seq (.asg 2 (.ite (.cmp .ne (.var 0) (.lst (.nil))) (.pop0 0) (.cst (.int 0)))) (.seq (.ret (.bin .mod (.bi .int (.cons (.var 2) (.nil))) (.var 1))) (.skip)), true⟩
/-- _law_choice -/
def def13 : Def := ⟨2, 2,
  .seq (.ret (.ix (.var 1) (.callb 12 0 (.cons (.bi .len (.cons (.var 1) (.nil))) (.nil))))) (.skip), true⟩
/-- _law_script -/
def def14 : Def := ⟨3, 8,
  .seq (.asg 2 (.bin .add (.cst (.int 1)) (.callb 12 0 (.cons (.var 2) (.nil))))) (.seq (.asg 3 (.lst (.nil))) (.seq (.fr (.nm 4) (.rng1 (.callb 12 0 (.cons (.bin .add (.var 1) (.cst (.int 1))) (.nil)))) (.seq (.asgP [5, 6] (.cons (.callb 12 0 (.cons (.var 2) (.nil))) (.cons (.bin .add (.cst (.int 1)) (.callb 13 0 (.cons (.lst (.cons (.cst (.int 0)) (.cons (.cst (.int 0)) (.cons (.cst (.int 1)) (.cons (.cst (.int 2)) (.cons (.cst (.int 4)) (.cons (.cst (.int 8)) (.nil)))))))) (.nil)))) (.nil)))) (.seq (.ifs (.cmp .eq (.callb 12 0 (.cons (.cst (.int 2)) (.nil))) (.cst (.int 0))) (.seq (.asg 6 (.neg (.var 6))) (.skip)) (.skip)) (.seq (.asg 7 (.callb 13 0 (.cons (.lst (.cons (.cst (.str "push")) (.cons (.cst (.str "push")) (.cons (.cst (.str "push")) (.cons (.cst (.str "turn")) (.cons (.cst (.str "zero")) (.nil))))))) (.nil)))) (.seq (.app 3 (.ite (.cmp .eq (.var 7) (.cst (.str "zero"))) (.tup (.cons (.var 7) (.cons (.var 5) (.nil)))) (.tup (.cons (.var 7) (.cons (.var 5) (.cons (.var 6) (.nil))))))) (.skip)))))) (.seq (.ret (.tup (.cons (.var 2) (.cons (.bi .tuple (.cons (.var 3) (.nil))) (.nil))))) (.skip)))), true⟩
/-- _law_named_error -/
def def15 : Def := ⟨1, 5,
  .seq (.asg 1 (.lst (.cons (.bi (.isX 0) (.cons (.var 0) .nil)) (.cons (.bi (.isX 3) (.cons (.var 0) .nil)) (.cons (.bi (.isX 4) (.cons (.var 0) .nil)) (.nil)))))) (.seq (.asg 1 (.bin .add (.var 1) (.lst (.cons (.bi (.isX 5) (.cons (.var 0) .nil)) (.cons (.bi (.isX 6) (.cons (.var 0) .nil)) (.cons (.bi (.isX 7) (.cons (.var 0) .nil)) (.nil))))))) (.seq (.asg 1 (.bin .add (.var 1) (.lst (.cons (.bi (.isX 8) (.cons (.var 0) .nil)) (.cons (.bi (.isX 1) (.cons (.var 0) .nil)) (.cons (.bi (.isX 9) (.cons (.var 0) .nil)) (.nil))))))) (.seq (.asg 1 (.bin .add (.var 1) (.lst (.cons (.bi (.isX 10) (.cons (.var 0) .nil)) (.nil))))) (.seq (.asg 2 (.cst (.str "script figures start word deed wheel facts text unlike undo"))) (.seq (.ret (.tx .join (.cst (.str " ")) (.comp (.var 3) (.tp (.cons (.nm 3) (.cons (.nm 4) (.nil)))) (.zipL (.tx .split (.var 2) (.cst (.str " "))) (.var 1)) (.var 4) [3, 4]))) (.skip)))))), false⟩
/-- _law_told -/
def def16 : Def := ⟨1, 2,
  .seq (.tryx 2 (.seq (.ret (.tup (.cons (.callv 0 [] [22, 23, 24, 25, 26, 27] .nil) (.cons (.cst (.str "")) (.nil))))) (.skip)) 1 (.tup (.cons (.cst .non) (.cons (.callx 15 1) (.nil))))) (.skip), false⟩
/-- _law_text -/
def def17 : Def := ⟨1, 4,
  .seq (.asg 1 (.lst (.cons (.bin .add (.cst (.str "wheels ")) (.bi .str (.cons (.ix (.var 0) (.cst (.int 0))) (.nil)))) (.nil)))) (.seq (.fr (.nm 2) (.seqI (.ix (.var 0) (.cst (.int 1)))) (.seq (.app 1 (.tx .join (.cst (.str " ")) (.comp (.bi .str (.cons (.var 3) (.nil))) (.nm 3) (.seqI (.var 2)) (.nil) [3]))) (.skip))) (.seq (.ret (.tx .join (.cst (.str "\n")) (.var 1))) (.skip))), false⟩
/-- _law_integer -/
def def18 : Def := ⟨1, 2,
  .seq (.asg 1 (.ite (.cmp .eq (.sl (.var 0) (.nil) (.cst (.int 1))) (.cst (.str "-"))) (.sl (.var 0) (.cst (.int 1)) (.nil)) (.var 0))) (.seq (.ifs (.orr (.cmp .eq (.var 1) (.cst (.str ""))) (.orr (.cmp .gt (.bi .len (.cons (.var 1) (.nil))) (.cst (.int 1))) (.orr (.cmp .nin (.var 1) (.cst (.str "0123456789"))) (.cmp .eq (.var 0) (.cst (.str "-0")))))) (.seq (.ret (.cst .non)) (.skip)) (.skip)) (.seq (.ret (.bi .int (.cons (.var 0) (.nil)))) (.skip))), false⟩
/-- _law_read -/
def def19 : Def := ⟨1, 6,
  .seq (.asg 1 (.comp (.tx .split (.var 2) (.cst (.str " "))) (.nm 2) (.seqI (.tx .split (.var 0) (.cst (.str "\n")))) (.nil) [2])) (.seq (.ifs (.orr (.cmp .ne (.ix (.ix (.var 1) (.cst (.int 0))) (.cst (.int 0))) (.cst (.str "wheels"))) (.cmp .ne (.bi .len (.cons (.ix (.var 1) (.cst (.int 0))) (.nil))) (.cst (.int 2)))) (.seq (.ret (.cst .non)) (.skip)) (.skip)) (.seq (.asg 3 (.bi .tuple (.cons (.comp (.bin .add (.tup (.cons (.ix (.var 2) (.cst (.int 0))) (.nil))) (.bi .tuple (.cons (.comp (.call 18 (.cons (.var 4) (.nil))) (.nm 4) (.seqI (.sl (.var 2) (.cst (.int 1)) (.nil))) (.nil) [4]) (.nil)))) (.nm 2) (.seqI (.sl (.var 1) (.cst (.int 1)) (.nil))) (.nil) [2]) (.nil)))) (.seq (.asg 5 (.tup (.cons (.call 18 (.cons (.ix (.ix (.var 1) (.cst (.int 0))) (.cst (.int 1))) (.nil))) (.cons (.var 3) (.nil))))) (.seq (.ret (.ite (.call 3 (.cons (.var 5) (.nil))) (.var 5) (.cst .non))) (.skip))))), false⟩
/-- _law_bent -/
def def20 : Def := ⟨2, 7,
  .seq (.asgP [2, 3] (.cons (.callb 12 0 (.cons (.bin .add (.bi .len (.cons (.var 1) (.nil))) (.cst (.int 1))) (.nil))) (.cons (.callb 12 0 (.cons (.cst (.int 6)) (.nil))) (.nil)))) (.seq (.asg 4 (.tx .split (.var 1) (.cst (.str "\n")))) (.seq (.asg 5 (.callb 12 0 (.cons (.bi .len (.cons (.var 4) (.nil))) (.nil)))) (.seq (.ifs (.cmp .eq (.var 3) (.cst (.int 0))) (.seq (.asg 6 (.callb 13 0 (.cons (.lst (.cons (.cst (.str " ")) (.cons (.cst (.str "x")) (.cons (.cst (.str "\n")) (.cons (.cst (.str "1")) (.cons (.cst (.str "0")) (.cons (.cst (.str "-")) (.cons (.cst (.str " 2")) (.cons (.cst (.str "\npush 0 1")) (.cons (.cst (.str "\nzero 0")) (.cons (.cst (.str "\nwheels 1")) (.nil)))))))))))) (.nil)))) (.seq (.ret (.bin .add (.bin .add (.sl (.var 1) (.nil) (.var 2)) (.var 6)) (.sl (.var 1) (.var 2) (.nil)))) (.skip))) (.skip)) (.seq (.ifs (.cmp .eq (.var 3) (.cst (.int 1))) (.seq (.ret (.bin .add (.sl (.var 1) (.nil) (.var 2)) (.sl (.var 1) (.bin .add (.var 2) (.cst (.int 1))) (.nil)))) (.skip)) (.skip)) (.seq (.ifs (.cmp .eq (.var 3) (.cst (.int 2))) (.seq (.ret (.tx .join (.cst (.str "\n")) (.bin .add (.sl (.var 4) (.nil) (.var 5)) (.sl (.var 4) (.bin .add (.var 5) (.cst (.int 1))) (.nil))))) (.skip)) (.skip)) (.seq (.ifs (.cmp .eq (.var 3) (.cst (.int 3))) (.seq (.ret (.tx .join (.cst (.str "\n")) (.bin .add (.sl (.var 4) (.nil) (.bin .add (.var 5) (.cst (.int 1)))) (.sl (.var 4) (.var 5) (.nil))))) (.skip)) (.skip)) (.seq (.ifs (.cmp .eq (.var 3) (.cst (.int 4))) (.seq (.ret (.tx .join (.cst (.str "\n")) (.bin .add (.sl (.var 4) (.var 5) (.nil)) (.sl (.var 4) (.nil) (.var 5))))) (.skip)) (.skip)) (.seq (.ret (.tx .join (.cst (.str "\n")) (.bin .add (.sl (.var 4) (.nil) (.cst (.int 1))) (.revt (.var 4))))) (.skip))))))))), true⟩
/-- law -/
def def21 : Def := ⟨1, 10,
  .seq (.fr (.nm 1) (.rng1 (.cst (.int 8))) (.seq (.asg 2 (.call 11 (.cons (.var 0) (.cons (.var 1) (.nil))))) (.seq (.asg 3 (.callb 14 2 (.cons (.cst (.int 4)) (.cons (.cst (.int 3)) (.nil))))) (.seq (.asg 4 (.call 17 (.cons (.var 3) (.nil)))) (.seq (.ifs (.orr (.cmp .ne (.call 6 (.cons (.var 3) (.nil))) (.var 4)) (.cmp .ne (.callk 16 27 [4] (.nil)) (.tup (.cons (.var 3) (.cons (.cst (.str "")) (.nil)))))) (.seq (.ret (.cst (.bl false))) (.skip)) (.skip)) (.seq (.fr (.nm 5) (.rng1 (.cst (.int 14))) (.seq (.asg 6 (.callb 20 2 (.cons (.var 4) (.nil)))) (.seq (.asg 7 (.call 19 (.cons (.var 6) (.nil)))) (.seq (.ifs (.cmp .ne (.callk 16 26 [6] (.nil)) (.ite (.cmp .isx (.var 7) (.cst .non)) (.tup (.cons (.cst .non) (.cons (.cst (.str "text")) (.nil)))) (.tup (.cons (.var 7) (.cons (.cst (.str "")) (.nil)))))) (.seq (.ret (.cst (.bl false))) (.skip)) (.skip)) (.skip))))) (.seq (.fr (.nm 8) (.seqI (.lst (.cons (.cst .non) (.cons (.cst (.int 5)) (.cons (.cst (.str "")) (.cons (.cst (.str "wheels")) (.cons (.cst (.str "wheels 4")) (.cons (.cst (.str "wheel 1")) (.cons (.tup (.cons (.var 4) (.nil))) (.cons (.bin .add (.var 4) (.cst (.str "\n"))) (.cons (.bin .add (.cst (.str "\n")) (.var 4)) (.cons (.bin .add (.cst (.str " ")) (.var 4)) (.nil))))))))))))) (.seq (.ifs (.cmp .ne (.callk 16 25 [8] (.nil)) (.tup (.cons (.cst .non) (.cons (.cst (.str "text")) (.nil))))) (.seq (.ret (.cst (.bl false))) (.skip)) (.skip)) (.skip))) (.seq (.ifs (.cmp .ne (.callk 16 24 [3] (.nil)) (.tup (.cons (.cst .non) (.cons (.cst (.str "script")) (.nil))))) (.seq (.ret (.cst (.bl false))) (.skip)) (.skip)) (.skip))))))))) (.seq (.asg 9 (.lst (.cons (.cst (.str "wheels 01")) (.cons (.cst (.str "wheels 1\npush 0 10")) (.cons (.cst (.str "wheels 1\npush 0 +1")) (.cons (.cst (.str "wheels 1\npush 0 -0")) (.cons (.cst (.str "wheels 1\npush 1 1")) (.nil)))))))) (.seq (.asg 9 (.bin .add (.var 9) (.lst (.cons (.cst (.str "wheels 1\nzero 0 0")) (.cons (.cst (.str "wheels 1\nzero")) (.cons (.cst (.str "wheels 1\n3 0 1")) (.cons (.cst (.str "wheels 1\nturn 0 01")) (.cons (.cst (.str "push 0 1")) (.nil))))))))) (.seq (.fr (.nm 4) (.seqI (.bin .add (.var 9) (.lst (.cons (.bin .add (.cst (.str "wheels 1")) (.bin .mul (.cst (.str "\nzero 0")) (.cst (.int 5)))) (.cons (.cst (.str "wheels 1 1")) (.cons (.cst (.str "1")) (.cons (.cst (.str "wheels 1\nspin 0 1")) (.nil)))))))) (.seq (.ifs (.cmp .ne (.callk 16 23 [4] (.nil)) (.tup (.cons (.cst .non) (.cons (.cst (.str "text")) (.nil))))) (.seq (.ret (.cst (.bl false))) (.skip)) (.skip)) (.skip))) (.seq (.ifs (.cmp .ne (.call 8 (.cons (.cst (.str "wheels 3")) (.nil))) (.tup (.cons (.cst (.int 3)) (.cons (.tup (.nil)) (.nil))))) (.seq (.ret (.cst (.bl false))) (.skip)) (.skip)) (.seq (.asg 7 (.tup (.cons (.cst (.int 2)) (.cons (.tup (.cons (.tup (.cons (.cst (.str "zero")) (.cons (.cst (.int 1)) (.nil)))) (.cons (.tup (.cons (.cst (.str "push")) (.cons (.cst (.int 0)) (.cons (.neg (.cst (.int 9))) (.nil))))) (.nil)))) (.nil))))) (.seq (.ret (.cmp .eq (.callk 16 22 [] (.nil)) (.tup (.cons (.var 7) (.cons (.cst (.str "")) (.nil)))))) (.skip))))))), false⟩
def def22 : Def := ⟨0, 0, .ret (.call 8 (.cons (.cst (.str "wheels 2\nzero 1\npush 0 -9")) (.nil))), false⟩
def def23 : Def := ⟨1, 1, .ret (.call 8 (.cons (.var 0) (.nil))), false⟩
def def24 : Def := ⟨1, 1, .ret (.call 6 (.cons (.bi .list (.cons (.var 0) (.nil))) (.nil))), false⟩
def def25 : Def := ⟨1, 1, .ret (.call 8 (.cons (.var 0) (.nil))), false⟩
def def26 : Def := ⟨1, 1, .ret (.call 8 (.cons (.var 0) (.nil))), false⟩
def def27 : Def := ⟨1, 1, .ret (.call 8 (.cons (.var 0) (.nil))), false⟩
def D : Nat → Option Def
  | 0 => some def0
  | 1 => some def1
  | 2 => some def2
  | 3 => some def3
  | 4 => some def4
  | 5 => some def5
  | 6 => some def6
  | 7 => some def7
  | 8 => some def8
  | 9 => some def9
  | 10 => some def10
  | 11 => some def11
  | 12 => some def12
  | 13 => some def13
  | 14 => some def14
  | 15 => some def15
  | 16 => some def16
  | 17 => some def17
  | 18 => some def18
  | 19 => some def19
  | 20 => some def20
  | 21 => some def21
  | 22 => some def22
  | 23 => some def23
  | 24 => some def24
  | 25 => some def25
  | 26 => some def26
  | 27 => some def27
  | _ => none
/-! ### what the top has written -/
structure Txt (K : PySem.W.Frag) (mg : Str → Option Value) (base : Heap) (Z : Nm) (fds : Nat → FuncData) (cc : List (Addr × Addr)) : Prop where
  xa : Z.xa = none
  F0 : Fun K "is_whole" "is_whole" (top 13) (Z.fa 0) (fds 0)
  g0 : mg "is_whole" = some (.ref (Z.fa 0))
  b0 : Binds K (fds 0) ["value", "low", "high"] []
  F1 : Fun K "is_row" "is_row" (top 14) (Z.fa 1) (fds 1)
  g1 : mg "is_row" = some (.ref (Z.fa 1))
  b1 : Binds K (fds 1) ["value", "low", "high"] []
  F2 : Fun K "is_deed" "is_deed" (top 15) (Z.fa 2) (fds 2)
  g2 : mg "is_deed" = some (.ref (Z.fa 2))
  b2 : Binds K (fds 2) ["wheels", "value"] []
  F3 : Fun K "is_script" "is_script" (top 16) (Z.fa 3) (fds 3)
  g3 : mg "is_script" = some (.ref (Z.fa 3))
  b3 : Binds K (fds 3) ["value"] []
  F4 : Fun K "need_script" "need_script" (top 17) (Z.fa 4) (fds 4)
  g4 : mg "need_script" = some (.ref (Z.fa 4))
  b4 : Binds K (fds 4) ["script"] []
  F5 : Fun K "as_text" "as_text" (top 19) (Z.fa 5) (fds 5)
  g5 : mg "as_text" = some (.ref (Z.fa 5))
  b5 : Binds K (fds 5) ["script"] []
  F6 : Fun K "script_text" "script_text" (top 20) (Z.fa 6) (fds 6)
  g6 : mg "script_text" = some (.ref (Z.fa 6))
  b6 : Binds K (fds 6) ["script"] []
  F7 : Fun K "item_in" "item_in" (top 21) (Z.fa 7) (fds 7)
  g7 : mg "item_in" = some (.ref (Z.fa 7))
  b7 : Binds K (fds 7) ["word"] []
  F8 : Fun K "read_script" "read_script" (top 22) (Z.fa 8) (fds 8)
  g8 : mg "read_script" = some (.ref (Z.fa 8))
  b8 : Binds K (fds 8) ["value"] []
  F9 : Fun K "_law_cell" "_law_cell" (top 24) (Z.fa 9) (fds 9)
  g9 : mg "_law_cell" = some (.ref (Z.fa 9))
  b9 : Binds K (fds 9) ["script", "k"] []
  F10 : Fun K "_law_draws" "_law_draws" (top 25) (Z.fa 10) (fds 10)
  g10 : mg "_law_draws" = some (.ref (Z.fa 10))
  b10 : Binds K (fds 10) ["script", "k", "many", "base"] []
  F11 : Fun K "_law_bag" "_law_bag" (top 26) (Z.fa 11) (fds 11)
  g11 : mg "_law_bag" = some (.ref (Z.fa 11))
  b11 : Binds K (fds 11) ["script", "k"] []
  F12 : Fun K "_law_take" "_law_take" (top 27) (Z.fa 12) (fds 12)
  g12 : mg "_law_take" = some (.ref (Z.fa 12))
  b12 : Binds K (fds 12) ["bag", "many"] []
  F13 : Fun K "_law_choice" "_law_choice" (top 28) (Z.fa 13) (fds 13)
  g13 : mg "_law_choice" = some (.ref (Z.fa 13))
  b13 : Binds K (fds 13) ["bag", "some"] []
  F14 : Fun K "_law_script" "_law_script" (top 29) (Z.fa 14) (fds 14)
  g14 : mg "_law_script" = some (.ref (Z.fa 14))
  b14 : Binds K (fds 14) ["bag", "most", "wheels"] []
  F15 : Fun K "_law_named_error" "_law_named_error" (top 30) (Z.fa 15) (fds 15)
  g15 : mg "_law_named_error" = some (.ref (Z.fa 15))
  b15 : Binds K (fds 15) ["e"] []
  F16 : Fun K "_law_told" "_law_told" (top 31) (Z.fa 16) (fds 16)
  g16 : mg "_law_told" = some (.ref (Z.fa 16))
  b16 : Binds K (fds 16) ["call"] []
  F17 : Fun K "_law_text" "_law_text" (top 32) (Z.fa 17) (fds 17)
  g17 : mg "_law_text" = some (.ref (Z.fa 17))
  b17 : Binds K (fds 17) ["script_so"] []
  F18 : Fun K "_law_integer" "_law_integer" (top 33) (Z.fa 18) (fds 18)
  g18 : mg "_law_integer" = some (.ref (Z.fa 18))
  b18 : Binds K (fds 18) ["word"] []
  F19 : Fun K "_law_read" "_law_read" (top 34) (Z.fa 19) (fds 19)
  g19 : mg "_law_read" = some (.ref (Z.fa 19))
  b19 : Binds K (fds 19) ["text"] []
  F20 : Fun K "_law_bent" "_law_bent" (top 35) (Z.fa 20) (fds 20)
  g20 : mg "_law_bent" = some (.ref (Z.fa 20))
  b20 : Binds K (fds 20) ["bag", "text"] []
  F21 : Fun K "law" "law" (top 36) (Z.fa 21) (fds 21)
  g21 : mg "law" = some (.ref (Z.fa 21))
  b21 : Binds K (fds 21) ["script"] []
  z_all : mg "all" = none
  z_bool : mg "bool" = none
  z_int : mg "int" = none
  z_isinstance : mg "isinstance" = none
  z_len : mg "len" = none
  z_list : mg "list" = none
  z_range : mg "range" = none
  z_str : mg "str" = none
  z_tuple : mg "tuple" = none
  z_zip : mg "zip" = none
  cg0 : mg "InvalidScript" = some (.ref (Z.ca 0))
  cg1 : mg "InvalidText" = some (.ref (Z.ca 1))
  cg2 : mg "WheelError" = some (.ref (Z.ca 2))
  cg3 : mg "InvalidFigures" = some (.ref (Z.ca 3))
  cg4 : mg "InvalidStart" = some (.ref (Z.ca 4))
  cg5 : mg "InvalidWord" = some (.ref (Z.ca 5))
  cg6 : mg "InvalidDeed" = some (.ref (Z.ca 6))
  cg7 : mg "InvalidWheel" = some (.ref (Z.ca 7))
  cg8 : mg "InvalidFacts" = some (.ref (Z.ca 8))
  cg9 : mg "Unlike" = some (.ref (Z.ca 9))
  cg10 : mg "NothingToUndo" = some (.ref (Z.ca 10))
  ce0 : PySem.W.excIn K (Z.ca 0) [.type "ValueError", .type "Exception", .type "BaseException", .type "object"] "ValueError.__new__" = true
  ck0 : PySem.W.keepIn K (.ref (Z.ca 0)) = true
  cs0 : PySem.W.subIn K (.ref (Z.ca 0)) (.type "BaseException") = some true
  ct0 : PySem.W.typeIn K (.ref (Z.ca 0)) = some (.type "type")
  ce1 : PySem.W.excIn K (Z.ca 1) [.type "ValueError", .type "Exception", .type "BaseException", .type "object"] "ValueError.__new__" = true
  ck1 : PySem.W.keepIn K (.ref (Z.ca 1)) = true
  cs1 : PySem.W.subIn K (.ref (Z.ca 1)) (.type "BaseException") = some true
  ct1 : PySem.W.typeIn K (.ref (Z.ca 1)) = some (.type "type")
  exm : ∀ c, c < 2 → PySem.W.exmOne K (.ref (Z.ca c)) (.ref (Z.ca 2)) = some true
  exc : ∀ c, c < 2 → ExcC K (Z.ca c)
  kit : ∀ c k, c < 2 → k < 11 → k ≠ 2 → PySem.W.kitOne K (.ref (Z.ca c)) (.ref (Z.ca k)) = some (c == k)
  kitV : ∀ c, c < 2 → PySem.W.kitOne K (.ref (Z.ca c)) (.type "ValueError") = some true
  l0 : Z.la 22 = lamD0
  l1 : Z.la 23 = lamD1
  l2 : Z.la 24 = lamD2
  l3 : Z.la 25 = lamD3
  l4 : Z.la 26 = lamD4
  l5 : Z.la 27 = lamD5
  c21 : (fds 21).code = .ref (cc.getD 0 (0, 0)).1
  tb21 : LamX.TabB base mg (cc.getD 0 (0, 0)).1 (cc.getD 0 (0, 0)).2
  tm21 : ((cc.getD 0 (0, 0)).2, (fun _ _ => ("law.<locals>.<lambda>" : Str) : Nat → Nat → Str)) ∈ Z.tbs
  tu21 : ∀ p ∈ Z.tbs, p.1 = (cc.getD 0 (0, 0)).2 → p.2 = (fun _ _ => ("law.<locals>.<lambda>" : Str) : Nat → Nat → Str)
/-! ### all promises at one depth -/
structure OkAt (P : Program) (w : World) (K : PySem.W.Frag) (mg : Str → Option Value) (base : Heap) (Z : Nm) (fds : Nat → FuncData) (n : Nat) : Prop where
  o0 : FnOk P w K mg base (L2N.CX P w) n (Z.fa 0) (fds 0) ["value", "low", "high"] (spF Z false (callF D n 0) 3)
  o1 : FnOk P w K mg base (L2N.CX P w) n (Z.fa 1) (fds 1) ["value", "low", "high"] (spF Z false (callF D n 1) 3)
  o2 : FnOk P w K mg base (L2N.CX P w) n (Z.fa 2) (fds 2) ["wheels", "value"] (spF Z false (callF D n 2) 2)
  o3 : FnOk P w K mg base (L2N.CX P w) n (Z.fa 3) (fds 3) ["value"] (spF Z false (callF D n 3) 1)
  o4 : FnOk P w K mg base (L2N.CX P w) n (Z.fa 4) (fds 4) ["script"] (spF Z false (callF D n 4) 1)
  o5 : FnOk P w K mg base (L2N.CX P w) n (Z.fa 5) (fds 5) ["script"] (spF Z false (callF D n 5) 1)
  o6 : FnOk P w K mg base (L2N.CX P w) n (Z.fa 6) (fds 6) ["script"] (spF Z false (callF D n 6) 1)
  o7 : FnOk P w K mg base (L2N.CX P w) n (Z.fa 7) (fds 7) ["word"] (spF Z false (callF D n 7) 1)
  o8 : FnOk P w K mg base (L2N.CX P w) n (Z.fa 8) (fds 8) ["value"] (spF Z false (callF D n 8) 1)
  o9 : FnOk P w K mg base (L2N.CX P w) n (Z.fa 9) (fds 9) ["script", "k"] (spF Z false (callF D n 9) 2)
  o10 : FnOk P w K mg base (L2N.CX P w) n (Z.fa 10) (fds 10) ["script", "k", "many", "base"] (spF Z false (callF D n 10) 4)
  o11 : FnOk P w K mg base (L2N.CX P w) n (Z.fa 11) (fds 11) ["script", "k"] (spF Z false (callF D n 11) 2)
  o12 : FnOk P w K mg base (L2N.CX P w) n (Z.fa 12) (fds 12) ["bag", "many"] (spF Z true (callF D n 12) 2)
  o13 : FnOk P w K mg base (L2N.CX P w) n (Z.fa 13) (fds 13) ["bag", "some"] (spF Z true (callF D n 13) 2)
  o14 : FnOk P w K mg base (L2N.CX P w) n (Z.fa 14) (fds 14) ["bag", "most", "wheels"] (spF Z true (callF D n 14) 3)
  o15 : FnE P w K mg base n 2 (Z.fa 15) (fds 15) ["e"] Z (callF D n 15)
  o16 : FnOk P w K mg base (L2N.CX P w) n (Z.fa 16) (fds 16) ["call"] (spF Z false (callF D n 16) 1)
  o17 : FnOk P w K mg base (L2N.CX P w) n (Z.fa 17) (fds 17) ["script_so"] (spF Z false (callF D n 17) 1)
  o18 : FnOk P w K mg base (L2N.CX P w) n (Z.fa 18) (fds 18) ["word"] (spF Z false (callF D n 18) 1)
  o19 : FnOk P w K mg base (L2N.CX P w) n (Z.fa 19) (fds 19) ["text"] (spF Z false (callF D n 19) 1)
  o20 : FnOk P w K mg base (L2N.CX P w) n (Z.fa 20) (fds 20) ["bag", "text"] (spF Z true (callF D n 20) 2)
  o21 : FnOk P w K mg base (L2N.CX P w) n (Z.fa 21) (fds 21) ["script"] (spF Z false (callF D n 21) 1)
  o22 : LamOk P w K mg base n Z 22 (callF D n 22)
  o23 : LamOk P w K mg base n Z 23 (callF D n 23)
  o24 : LamOk P w K mg base n Z 24 (callF D n 24)
  o25 : LamOk P w K mg base n Z 25 (callF D n 25)
  o26 : LamOk P w K mg base n Z 26 (callF D n 26)
  o27 : LamOk P w K mg base n Z 27 (callF D n 27)
section
variable {P : Program} {w : World} {K : PySem.W.Frag} {mg : Str → Option Value} {base : Heap} {Z : Nm} {fds : Nat → FuncData} {n : Nat} {cc : List (Addr × Addr)}
theorem clsX (T : Txt K mg base Z fds cc) {a : Addr} {c k : Nat} (hc : c < 2) (hk : k < 11) (hw : k ≠ 2) : ClsX K (Z.at a c) k := fun c' a' e => by
  cases (show some (a, c) = some (a', c') from e)
  exact ⟨T.exc c hc, T.kit c k hc hk hw⟩
theorem clsV (T : Txt K mg base Z fds cc) {a : Addr} {c : Nat} (hc : c < 2) : ∀ c' a', (Z.at a c).xa = some (a', c') → ExcC K ((Z.at a c).ca c') ∧ PySem.W.kitOne K (.ref ((Z.at a c).ca c')) (.type "ValueError") = some true := fun c' a' e => by
  cases (show some (a, c) = some (a', c') from e)
  exact ⟨T.exc c hc, T.kitV c hc⟩
theorem lamHeldD (T : Txt K mg base Z fds cc) (o : OkAt P w K mg base Z fds n) {d : Nat} (hd : d ∈ [22, 23, 24, 25, 26, 27]) : LamOk P w K mg base n Z d (callF D n d) ∧ ∀ as obs, callF D n d as obs ≠ .bad → as.length = (Z.la d).ps.length + (Z.la d).fr.length := by
  simp only [List.mem_cons, List.not_mem_nil, or_false] at hd
  rcases hd with rfl | rfl | rfl | rfl | rfl | rfl
  · exact ⟨o.o22, by rw [T.l0]; exact callF_np (d := def22) rfl⟩
  · exact ⟨o.o23, by rw [T.l1]; exact callF_np (d := def23) rfl⟩
  · exact ⟨o.o24, by rw [T.l2]; exact callF_np (d := def24) rfl⟩
  · exact ⟨o.o25, by rw [T.l3]; exact callF_np (d := def25) rfl⟩
  · exact ⟨o.o26, by rw [T.l4]; exact callF_np (d := def26) rfl⟩
  · exact ⟨o.o27, by rw [T.l5]; exact callF_np (d := def27) rfl⟩
/-- is_whole -/
theorem body0 (T : Txt K mg base Z fds cc) (o : OkAt P w K mg base Z fds n) : FnOk P w K mg base (L2N.CX P w) (n + 1) (Z.fa 0) (fds 0) ["value", "low", "high"] (spF Z false (callF D (n + 1) 0) 3) := by
  refine def_ok (D := D) (f := 0) (d := def0) rfl T.F0 sc0 rfl rfl fun bs cdv B outer s H E hl hcd hr => ?_
  have hz : bs.lp = none := hl.mpr rfl
  exact (st_cons (st_ret (s_and (s_isA (T := .int) rfl T.z_isinstance rfl T.z_int rfl (by decide) rfl (s_var (i := 0) rfl (by first | exact Or.inl rfl | exact Or.inr (Or.inl rfl) | exact Or.inr (Or.inr rfl)) rfl rfl) rfl) (s_and (s_not (s_isA (T := .bool) rfl T.z_isinstance rfl T.z_bool rfl (by decide) rfl (s_var (i := 0) rfl (by first | exact Or.inl rfl | exact Or.inr (Or.inl rfl) | exact Or.inr (Or.inr rfl)) rfl rfl) rfl)) (pe_one (s_chn (o := .le) (p := .le) (room65 hr) (s_var (i := 1) rfl (by first | exact Or.inl rfl | exact Or.inr (Or.inl rfl) | exact Or.inr (Or.inr rfl)) rfl rfl) (s_var (i := 0) rfl (by first | exact Or.inl rfl | exact Or.inr (Or.inl rfl) | exact Or.inr (Or.inr rfl)) rfl rfl) (s_var (i := 2) rfl (by first | exact Or.inl rfl | exact Or.inr (Or.inl rfl) | exact Or.inr (Or.inr rfl)) rfl rfl) rfl)))))
      st_nil)
/-- is_row -/
theorem body1 (T : Txt K mg base Z fds cc) (o : OkAt P w K mg base Z fds n) : FnOk P w K mg base (L2N.CX P w) (n + 1) (Z.fa 1) (fds 1) ["value", "low", "high"] (spF Z false (callF D (n + 1) 1) 3) := by
  refine def_ok (D := D) (f := 1) (d := def1) rfl T.F1 sc1 rfl rfl fun bs cdv B outer s H E hl hcd hr => ?_
  have hz : bs.lp = none := hl.mpr rfl
  exact (st_cons (st_ret (s_and (s_isA (T := .tuple) rfl T.z_isinstance rfl T.z_tuple rfl (by decide) rfl (s_var (i := 0) rfl (by first | exact Or.inl rfl | exact Or.inr (Or.inl rfl) | exact Or.inr (Or.inr rfl)) rfl rfl) rfl) (pe_one (s_chn (o := .le) (p := .le) (room65 hr) (s_var (i := 1) rfl (by first | exact Or.inl rfl | exact Or.inr (Or.inl rfl) | exact Or.inr (Or.inr rfl)) rfl rfl) (s_biF (b := .len) (id := "len") rfl rfl rfl rfl T.z_len rfl (d_cons (s_var (i := 0) rfl (by first | exact Or.inl rfl | exact Or.inr (Or.inl rfl) | exact Or.inr (Or.inr rfl)) rfl rfl) d_nil rfl) (by decide) rfl rfl) (s_var (i := 2) rfl (by first | exact Or.inl rfl | exact Or.inr (Or.inl rfl) | exact Or.inr (Or.inr rfl)) rfl rfl) rfl))))
      st_nil)
/-- is_deed -/
theorem body2 (T : Txt K mg base Z fds cc) (o : OkAt P w K mg base Z fds n) : FnOk P w K mg base (L2N.CX P w) (n + 1) (Z.fa 2) (fds 2) ["wheels", "value"] (spF Z false (callF D (n + 1) 2) 2) := by
  refine def_ok (D := D) (f := 2) (d := def2) rfl T.F2 sc2 rfl rfl fun bs cdv B outer s H E hl hcd hr => ?_
  have hz : bs.lp = none := hl.mpr rfl
  exact (st_cons (st_if (PW.pt (t_or (t_not (t_val (s_call (f := 1) o.o1 (callF_np (d := def1) rfl) hr rfl T.g1 T.F1.kp T.b1 (L2N.takes_of rfl rfl rfl rfl) (a_cons (s_var (i := 1) rfl (by first | exact Or.inl rfl | exact Or.inr (Or.inl rfl) | exact Or.inr (Or.inr rfl)) rfl rfl) (a_cons (s_cst pe_int (fun _ _ => .int _)) (a_cons (s_cst pe_int (fun _ _ => .int _)) a_nil rfl) rfl) rfl) rfl rfl) (fun _ => rfl))) (t_or (t_not (t_val (s_isA (T := .str) rfl T.z_isinstance rfl T.z_str rfl (by decide) rfl (s_ix (s_var (i := 1) rfl (by first | exact Or.inl rfl | exact Or.inr (Or.inl rfl) | exact Or.inr (Or.inr rfl)) rfl rfl) (s_cst pe_int (fun _ _ => .int _)) (fun _ _ => rfl)) rfl) (fun _ => rfl))) (pw_or1 (t_not (t_val (s_call (f := 0) o.o0 (callF_np (d := def0) rfl) hr rfl T.g0 T.F0.kp T.b0 (L2N.takes_of rfl rfl rfl rfl) (a_cons (s_ix (s_var (i := 1) rfl (by first | exact Or.inl rfl | exact Or.inr (Or.inl rfl) | exact Or.inr (Or.inr rfl)) rfl rfl) (s_cst pe_int (fun _ _ => .int _)) (fun _ _ => rfl)) (a_cons (s_cst pe_int (fun _ _ => .int _)) (a_cons (s_bin (op := .sub) (s_var (i := 0) rfl (by first | exact Or.inl rfl | exact Or.inr (Or.inl rfl) | exact Or.inr (Or.inr rfl)) rfl rfl) (s_cst pe_int (fun _ _ => .int _))) a_nil rfl) rfl) rfl) rfl rfl) (fun _ => rfl)))))))
      (st_cons (st_ret (s_cst pe_bl (fun _ _ => .bl _)))
      st_nil)
      st_nil)
      (st_cons (st_if (t_cmp (op := .eq) (room65 hr) (s_biF (b := .len) (id := "len") rfl rfl rfl rfl T.z_len rfl (d_cons (s_var (i := 1) rfl (by first | exact Or.inl rfl | exact Or.inr (Or.inl rfl) | exact Or.inr (Or.inr rfl)) rfl rfl) d_nil rfl) (by decide) rfl rfl) (s_cst pe_int (fun _ _ => .int _)) rfl)
      (st_cons (st_ret (s_cmp (op := .eq) (room65 hr) (s_ix (s_var (i := 1) rfl (by first | exact Or.inl rfl | exact Or.inr (Or.inl rfl) | exact Or.inr (Or.inr rfl)) rfl rfl) (s_cst pe_int (fun _ _ => .int _)) (fun _ _ => rfl)) (s_cst pe_str (fun _ _ => .str _)) rfl))
      st_nil)
      st_nil)
      (st_cons (st_ret (s_and (s_cmp (op := .inn) (room65 hr) (s_ix (s_var (i := 1) rfl (by first | exact Or.inl rfl | exact Or.inr (Or.inl rfl) | exact Or.inr (Or.inr rfl)) rfl rfl) (s_cst pe_int (fun _ _ => .int _)) (fun _ _ => rfl)) (s_tup (a_cons (s_cst pe_str (fun _ _ => .str _)) (a_cons (s_cst pe_str (fun _ _ => .str _)) a_nil rfl) rfl)) rfl) (s_and (s_call (f := 0) o.o0 (callF_np (d := def0) rfl) hr rfl T.g0 T.F0.kp T.b0 (L2N.takes_of rfl rfl rfl rfl) (a_cons (s_ix (s_var (i := 1) rfl (by first | exact Or.inl rfl | exact Or.inr (Or.inl rfl) | exact Or.inr (Or.inr rfl)) rfl rfl) (s_cst pe_int (fun _ _ => .int _)) (fun _ _ => rfl)) (a_cons (s_neg (s_cst pe_int (fun _ _ => .int _))) (a_cons (s_cst pe_int (fun _ _ => .int _)) a_nil rfl) rfl) rfl) rfl rfl) (pe_one (s_cmp (op := .ne) (room65 hr) (s_ix (s_var (i := 1) rfl (by first | exact Or.inl rfl | exact Or.inr (Or.inl rfl) | exact Or.inr (Or.inr rfl)) rfl rfl) (s_cst pe_int (fun _ _ => .int _)) (fun _ _ => rfl)) (s_cst pe_int (fun _ _ => .int _)) rfl)))))
      st_nil)))
/-- is_script -/
theorem body3 (T : Txt K mg base Z fds cc) (o : OkAt P w K mg base Z fds n) : FnOk P w K mg base (L2N.CX P w) (n + 1) (Z.fa 3) (fds 3) ["value"] (spF Z false (callF D (n + 1) 3) 1) := by
  refine def_ok (D := D) (f := 3) (d := def3) rfl T.F3 sc3 rfl rfl fun bs cdv B outer s H E hl hcd hr => ?_
  have hz : bs.lp = none := hl.mpr rfl
  exact (st_cons (st_if (PW.pt (t_or (t_not (t_val (s_call (f := 1) o.o1 (callF_np (d := def1) rfl) hr rfl T.g1 T.F1.kp T.b1 (L2N.takes_of rfl rfl rfl rfl) (a_cons (s_var (i := 0) rfl (by first | exact Or.inl rfl | exact Or.inr (Or.inl rfl) | exact Or.inr (Or.inr rfl)) rfl rfl) (a_cons (s_cst pe_int (fun _ _ => .int _)) (a_cons (s_cst pe_int (fun _ _ => .int _)) a_nil rfl) rfl) rfl) rfl rfl) (fun _ => rfl))) (t_or (t_not (t_val (s_call (f := 0) o.o0 (callF_np (d := def0) rfl) hr rfl T.g0 T.F0.kp T.b0 (L2N.takes_of rfl rfl rfl rfl) (a_cons (s_ix (s_var (i := 0) rfl (by first | exact Or.inl rfl | exact Or.inr (Or.inl rfl) | exact Or.inr (Or.inr rfl)) rfl rfl) (s_cst pe_int (fun _ _ => .int _)) (fun _ _ => rfl)) (a_cons (s_cst pe_int (fun _ _ => .int _)) (a_cons (s_cst pe_int (fun _ _ => .int _)) a_nil rfl) rfl) rfl) rfl rfl) (fun _ => rfl))) (pw_or1 (t_not (t_val (s_call (f := 1) o.o1 (callF_np (d := def1) rfl) hr rfl T.g1 T.F1.kp T.b1 (L2N.takes_of rfl rfl rfl rfl) (a_cons (s_ix (s_var (i := 0) rfl (by first | exact Or.inl rfl | exact Or.inr (Or.inl rfl) | exact Or.inr (Or.inr rfl)) rfl rfl) (s_cst pe_int (fun _ _ => .int _)) (fun _ _ => rfl)) (a_cons (s_cst pe_int (fun _ _ => .int _)) (a_cons (s_cst pe_int (fun _ _ => .int _)) a_nil rfl) rfl) rfl) rfl rfl) (fun _ => rfl)))))))
      (st_cons (st_ret (s_cst pe_bl (fun _ _ => .bl _)))
      st_nil)
      st_nil)
      (st_cons (st_ret (s_biF (b := .all) (id := "all") rfl rfl rfl rfl T.z_all rfl (d_cons (s_lcB (B := BCalm) (own := [("deed", 1)]) (fun pins σ H s fp I _ => bcalm_blk (own := [("deed", 1)]) (blk_by (by kernel_rfl)) rfl (cb_cx (fun _ => rfl)) pins σ H s fp I) sc3.nd (pib_of (fun _ b => b.1) (i_seq (s_ix (s_var (i := 0) rfl (by first | exact Or.inl rfl | exact Or.inr (Or.inl rfl) | exact Or.inr (Or.inr rfl)) rfl rfl) (s_cst pe_int (fun _ _ => .int _)) (fun _ _ => rfl)))) (blk_by (by kernel_rfl)) (by decide) (fun s H fp b1 => (g_nm (i := 1) sc3.nd rfl (by first | exact Or.inl rfl | exact Or.inr rfl) (by first | exact Or.inl rfl | exact Or.inr rfl))) (fun s H fp b1 => c_nil) (fun s H fp b1 => (s_call (f := 2) o.o2 (callF_np (d := def2) rfl) hr rfl T.g2 T.F2.kp T.b2 takesF (a_cons (s_ix (s_var (i := 0) rfl (by first | exact Or.inl rfl | exact Or.inr (Or.inl rfl) | exact Or.inr (Or.inr rfl)) rfl rfl) (s_cst pe_int (fun _ _ => .int _)) (fun _ _ => rfl)) (a_cons (s_var (i := 1) rfl (by first | exact Or.inl rfl | exact Or.inr (Or.inl rfl) | exact Or.inr (Or.inr rfl)) rfl rfl) a_nil rfl) rfl) rfl rfl)) (fun _ => rfl)) d_nil rfl) (by decide) rfl rfl))
      st_nil))
/-- need_script -/
theorem body4 (T : Txt K mg base Z fds cc) (o : OkAt P w K mg base Z fds n) : FnOk P w K mg base (L2N.CX P w) (n + 1) (Z.fa 4) (fds 4) ["script"] (spF Z false (callF D (n + 1) 4) 1) := by
  refine def_ok (D := D) (f := 4) (d := def4) rfl T.F4 sc4 rfl rfl fun bs cdv B outer s H E hl hcd hr => ?_
  have hz : bs.lp = none := hl.mpr rfl
  exact (st_cons (st_if (t_not (t_val (s_call (f := 3) o.o3 (callF_np (d := def3) rfl) hr rfl T.g3 T.F3.kp T.b3 (L2N.takes_of rfl rfl rfl rfl) (a_cons (s_var (i := 0) rfl (by first | exact Or.inl rfl | exact Or.inr (Or.inl rfl) | exact Or.inr (Or.inr rfl)) rfl rfl) a_nil rfl) rfl rfl) (fun _ => rfl)))
      (st_cons (st_rais rfl (L2N.takes_of rfl rfl rfl rfl) rfl PySem.F.excBase_ValueError T.ce0 T.cg0 T.ck0 (raises_own T.cs0 T.ct0) rfl rfl)
      st_nil)
      st_nil)
      st_nil)
/-- as_text -/
theorem body5 (T : Txt K mg base Z fds cc) (o : OkAt P w K mg base Z fds n) : FnOk P w K mg base (L2N.CX P w) (n + 1) (Z.fa 5) (fds 5) ["script"] (spF Z false (callF D (n + 1) 5) 1) := by
  refine def_ok (D := D) (f := 5) (d := def5) rfl T.F5 sc5 rfl rfl fun bs cdv B outer s H E hl hcd hr => ?_
  have hz : bs.lp = none := hl.mpr rfl
  exact (st_cons (st_ret (s_join (s_cst pe_str (fun _ _ => .str _)) (s_bin (op := .add) (s_lst (a_cons (s_js (j_cons (s_cst pe_str (fun _ _ => .str _)) (j_cons (s_fmt (s_ix (s_var (i := 0) rfl (by first | exact Or.inl rfl | exact Or.inr (Or.inl rfl) | exact Or.inr (Or.inr rfl)) rfl rfl) (s_cst pe_int (fun _ _ => .int _)) (fun _ _ => rfl))) j_nil))) a_nil rfl)) (s_lcB (B := BCalm) (own := [("deed", 2)]) (fun pins σ H s fp I _ => bcalm_blk (own := [("deed", 2)]) (blk_by (by kernel_rfl)) rfl (cb_cx (fun _ => rfl)) pins σ H s fp I) sc5.nd (pib_of (fun _ b => b.1) (i_seq (s_ix (s_var (i := 0) rfl (by first | exact Or.inl rfl | exact Or.inr (Or.inl rfl) | exact Or.inr (Or.inr rfl)) rfl rfl) (s_cst pe_int (fun _ _ => .int _)) (fun _ _ => rfl)))) (blk_by (by kernel_rfl)) (by decide) (fun s H fp b1 => (g_nm (i := 2) sc5.nd rfl (by first | exact Or.inl rfl | exact Or.inr rfl) (by first | exact Or.inl rfl | exact Or.inr rfl))) (fun s H fp b1 => c_nil) (fun s H fp b1 => (s_join (s_cst pe_str (fun _ _ => .str _)) (s_lcB (B := BCalm) (own := [("item", 1)]) (fun pins σ H s fp I _ => bcalm_blk (own := [("item", 1)]) (blk_by (by kernel_rfl)) rfl (fun _ => b1.2) pins σ H s fp I) sc5.nd (pib_of (fun _ b => b.1) (i_seq (s_var (i := 2) rfl (by first | exact Or.inl rfl | exact Or.inr (Or.inl rfl) | exact Or.inr (Or.inr rfl)) rfl rfl))) (blk_by (by kernel_rfl)) (by decide) (fun s H fp b2 => (g_nm (i := 1) sc5.nd rfl (by first | exact Or.inl rfl | exact Or.inr rfl) (by first | exact Or.inl rfl | exact Or.inr rfl))) (fun s H fp b2 => c_nil) (fun s H fp b2 => (s_biT (b := .str) (id := "str") rfl rfl rfl rfl T.z_str rfl (d_cons (s_var (i := 1) rfl (by first | exact Or.inl rfl | exact Or.inr (Or.inl rfl) | exact Or.inr (Or.inr rfl)) rfl rfl) d_nil rfl) (by decide) rfl rfl)) (fun _ => rfl)) rfl rfl rfl)) (fun _ => rfl))) rfl rfl rfl))
      st_nil)
/-- script_text -/
theorem body6 (T : Txt K mg base Z fds cc) (o : OkAt P w K mg base Z fds n) : FnOk P w K mg base (L2N.CX P w) (n + 1) (Z.fa 6) (fds 6) ["script"] (spF Z false (callF D (n + 1) 6) 1) := by
  refine def_ok (D := D) (f := 6) (d := def6) rfl T.F6 sc6 rfl rfl fun bs cdv B outer s H E hl hcd hr => ?_
  have hz : bs.lp = none := hl.mpr rfl
  exact (st_cons (st_exp (s_call (f := 4) o.o4 (callF_np (d := def4) rfl) hr rfl T.g4 T.F4.kp T.b4 (L2N.takes_of rfl rfl rfl rfl) (a_cons (s_var (i := 0) rfl (by first | exact Or.inl rfl | exact Or.inr (Or.inl rfl) | exact Or.inr (Or.inr rfl)) rfl rfl) a_nil rfl) rfl rfl) rfl)
      (st_cons (st_ret (s_call (f := 5) o.o5 (callF_np (d := def5) rfl) hr rfl T.g5 T.F5.kp T.b5 (L2N.takes_of rfl rfl rfl rfl) (a_cons (s_var (i := 0) rfl (by first | exact Or.inl rfl | exact Or.inr (Or.inl rfl) | exact Or.inr (Or.inr rfl)) rfl rfl) a_nil rfl) rfl rfl))
      st_nil))
/-- item_in -/
theorem body7 (T : Txt K mg base Z fds cc) (o : OkAt P w K mg base Z fds n) : FnOk P w K mg base (L2N.CX P w) (n + 1) (Z.fa 7) (fds 7) ["word"] (spF Z false (callF D (n + 1) 7) 1) := by
  refine def_ok (D := D) (f := 7) (d := def7) rfl T.F7 sc7 rfl rfl fun bs cdv B outer s H E hl hcd hr => ?_
  have hz : bs.lp = none := hl.mpr rfl
  exact (st_cons (st_asgCB (i := 1) (.inl hz) (B := BCalm) (own := [("number", 2)]) (fun pins σ H s fp I _ => bcalm_blk (own := [("number", 2)]) (blk_by (by kernel_rfl)) rfl (cb_cx (fun _ => rfl)) pins σ H s fp I) sc7.nd rfl rfl (sw_true rfl rfl rfl rfl) (pib_of (fun _ b => b.1) (i_rng2 rfl T.z_range (s_neg (s_cst pe_int (fun _ _ => .int _))) (s_cst pe_int (fun _ _ => .int _)) rfl rfl)) (blk_by (by kernel_rfl)) (by decide) (fun s H fp b1 => (g_nm (i := 2) sc7.nd rfl (by first | exact Or.inl rfl | exact Or.inr rfl) (by first | exact Or.inl rfl | exact Or.inr rfl))) (fun s H fp b1 => c_nil) (fun s H fp b1 => (s_biT (b := .str) (id := "str") rfl rfl rfl rfl T.z_str rfl (d_cons (s_var (i := 2) rfl (by first | exact Or.inl rfl | exact Or.inr (Or.inl rfl) | exact Or.inr (Or.inr rfl)) rfl rfl) d_nil rfl) (by decide) rfl rfl)) (fun _ => rfl))
      (st_cons (st_ret (s_ite (t_cmp (op := .inn) (room65 hr) (s_var (i := 0) rfl (by first | exact Or.inl rfl | exact Or.inr (Or.inl rfl) | exact Or.inr (Or.inr rfl)) rfl rfl) (s_var (i := 1) rfl (by first | exact Or.inl rfl | exact Or.inr (Or.inl rfl) | exact Or.inr (Or.inr rfl)) rfl rfl) rfl) (s_biT (b := .int) (id := "int") rfl rfl rfl rfl T.z_int rfl (d_cons (s_var (i := 0) rfl (by first | exact Or.inl rfl | exact Or.inr (Or.inl rfl) | exact Or.inr (Or.inr rfl)) rfl rfl) d_nil rfl) (by decide) rfl rfl) (s_var (i := 0) rfl (by first | exact Or.inl rfl | exact Or.inr (Or.inl rfl) | exact Or.inr (Or.inr rfl)) rfl rfl)))
      st_nil))
/-- read_script -/
theorem body8 (T : Txt K mg base Z fds cc) (o : OkAt P w K mg base Z fds n) : FnOk P w K mg base (L2N.CX P w) (n + 1) (Z.fa 8) (fds 8) ["value"] (spF Z false (callF D (n + 1) 8) 1) := by
  refine def_ok (D := D) (f := 8) (d := def8) rfl T.F8 sc8 rfl rfl fun bs cdv B outer s H E hl hcd hr => ?_
  have hz : bs.lp = none := hl.mpr rfl
  exact (st_cons (st_if (t_not (t_val (s_isA (T := .str) rfl T.z_isinstance rfl T.z_str rfl (by decide) rfl (s_var (i := 0) rfl (by first | exact Or.inl rfl | exact Or.inr (Or.inl rfl) | exact Or.inr (Or.inr rfl)) rfl rfl) rfl) (fun _ => rfl)))
      (st_cons (st_rais rfl (L2N.takes_of rfl rfl rfl rfl) rfl PySem.F.excBase_ValueError T.ce1 T.cg1 T.ck1 (raises_own T.cs1 T.ct1) rfl rfl)
      st_nil)
      st_nil)
      (st_cons (st_asgCB (i := 1) (.inl hz) (B := BCalm) (own := [("line", 3)]) (fun pins σ H s fp I _ => bcalm_blk (own := [("line", 3)]) (blk_by (by kernel_rfl)) rfl (cb_cx (fun _ => rfl)) pins σ H s fp I) sc8.nd rfl rfl (sw_true rfl rfl rfl rfl) (pib_of (fun _ b => b.1) (i_seq (s_split (s_var (i := 0) rfl (by first | exact Or.inl rfl | exact Or.inr (Or.inl rfl) | exact Or.inr (Or.inr rfl)) rfl rfl) (s_cst pe_str (fun _ _ => .str _)) rfl rfl rfl))) (blk_by (by kernel_rfl)) (by decide) (fun s H fp b1 => (g_nm (i := 3) sc8.nd rfl (by first | exact Or.inl rfl | exact Or.inr rfl) (by first | exact Or.inl rfl | exact Or.inr rfl))) (fun s H fp b1 => c_nil) (fun s H fp b1 => (s_biT (b := .tuple) (id := "tuple") rfl rfl rfl rfl T.z_tuple rfl (d_cons (s_lcB (B := BCalm) (own := [("word", 2)]) (fun pins σ H s fp I _ => bcalm_blk (own := [("word", 2)]) (blk_by (by kernel_rfl)) rfl (fun _ => b1.2) pins σ H s fp I) sc8.nd (pib_of (fun _ b => b.1) (i_seq (s_split (s_var (i := 3) rfl (by first | exact Or.inl rfl | exact Or.inr (Or.inl rfl) | exact Or.inr (Or.inr rfl)) rfl rfl) (s_cst pe_str (fun _ _ => .str _)) rfl rfl rfl))) (blk_by (by kernel_rfl)) (by decide) (fun s H fp b2 => (g_nm (i := 2) sc8.nd rfl (by first | exact Or.inl rfl | exact Or.inr rfl) (by first | exact Or.inl rfl | exact Or.inr rfl))) (fun s H fp b2 => c_nil) (fun s H fp b2 => (s_call (f := 7) o.o7 (callF_np (d := def7) rfl) hr rfl T.g7 T.F7.kp T.b7 takesF (a_cons (s_var (i := 2) rfl (by first | exact Or.inl rfl | exact Or.inr (Or.inl rfl) | exact Or.inr (Or.inr rfl)) rfl rfl) a_nil rfl) rfl rfl)) (fun _ => rfl)) d_nil rfl) (by decide) rfl rfl)) (fun _ => rfl))
      (st_cons (st_asg (i := 4) (.inl hz) sc8.nd rfl (by first | exact Or.inl rfl | exact Or.inr rfl) (s_tup (a_cons (s_ix (s_ix (s_var (i := 1) rfl (by first | exact Or.inl rfl | exact Or.inr (Or.inl rfl) | exact Or.inr (Or.inr rfl)) rfl rfl) (s_cst pe_int (fun _ _ => .int _)) (fun _ _ => rfl)) (s_neg (s_cst pe_int (fun _ _ => .int _))) (fun _ _ => rfl)) (a_cons (s_biT (b := .tuple) (id := "tuple") rfl rfl rfl rfl T.z_tuple rfl (d_cons (s_sl (s_var (i := 1) rfl (by first | exact Or.inl rfl | exact Or.inr (Or.inl rfl) | exact Or.inr (Or.inr rfl)) rfl rfl) (o_some (by intro z; cases z) (s_cst pe_int (fun _ _ => .int _))) o_nil) d_nil rfl) (by decide) rfl rfl) a_nil rfl) rfl)) rfl (by first | exact Or.inl rfl | exact Or.inr rfl))
      (st_cons (st_if (PW.pt (t_or (t_not (t_val (s_call (f := 3) o.o3 (callF_np (d := def3) rfl) hr rfl T.g3 T.F3.kp T.b3 (L2N.takes_of rfl rfl rfl rfl) (a_cons (s_var (i := 4) rfl (by first | exact Or.inl rfl | exact Or.inr (Or.inl rfl) | exact Or.inr (Or.inr rfl)) rfl rfl) a_nil rfl) rfl rfl) (fun _ => rfl))) (pw_or1 (t_cmp (op := .ne) (room65 hr) (s_call (f := 5) o.o5 (callF_np (d := def5) rfl) hr rfl T.g5 T.F5.kp T.b5 (L2N.takes_of rfl rfl rfl rfl) (a_cons (s_var (i := 4) rfl (by first | exact Or.inl rfl | exact Or.inr (Or.inl rfl) | exact Or.inr (Or.inr rfl)) rfl rfl) a_nil rfl) rfl rfl) (s_var (i := 0) rfl (by first | exact Or.inl rfl | exact Or.inr (Or.inl rfl) | exact Or.inr (Or.inr rfl)) rfl rfl) rfl))))
      (st_cons (st_rais rfl (L2N.takes_of rfl rfl rfl rfl) rfl PySem.F.excBase_ValueError T.ce1 T.cg1 T.ck1 (raises_own T.cs1 T.ct1) rfl rfl)
      st_nil)
      st_nil)
      (st_cons (st_ret (s_var (i := 4) rfl (by first | exact Or.inl rfl | exact Or.inr (Or.inl rfl) | exact Or.inr (Or.inr rfl)) rfl rfl))
      st_nil)))))
/-- _law_cell -/
theorem body9 (T : Txt K mg base Z fds cc) (o : OkAt P w K mg base Z fds n) : FnOk P w K mg base (L2N.CX P w) (n + 1) (Z.fa 9) (fds 9) ["script", "k"] (spF Z false (callF D (n + 1) 9) 2) := by
  refine def_ok (D := D) (f := 9) (d := def9) rfl T.F9 sc9 rfl rfl fun bs cdv B outer s H E hl hcd hr => ?_
  have hz : bs.lp = none := hl.mpr rfl
  exact (st_cons (st_if (t_cmp (op := .lt) (room65 hr) (s_var (i := 1) rfl (by first | exact Or.inl rfl | exact Or.inr (Or.inl rfl) | exact Or.inr (Or.inr rfl)) rfl rfl) (s_biF (b := .len) (id := "len") rfl rfl rfl rfl T.z_len rfl (d_cons (s_var (i := 0) rfl (by first | exact Or.inl rfl | exact Or.inr (Or.inl rfl) | exact Or.inr (Or.inr rfl)) rfl rfl) d_nil rfl) (by decide) rfl rfl) rfl)
      (st_cons (st_ret (s_ix (s_var (i := 0) rfl (by first | exact Or.inl rfl | exact Or.inr (Or.inl rfl) | exact Or.inr (Or.inr rfl)) rfl rfl) (s_var (i := 1) rfl (by first | exact Or.inl rfl | exact Or.inr (Or.inl rfl) | exact Or.inr (Or.inr rfl)) rfl rfl) (fun _ _ => rfl)))
      st_nil)
      st_nil)
      (st_cons (st_if (t_cmp (op := .eq) (room65 hr) (s_biF (b := .len) (id := "len") rfl rfl rfl rfl T.z_len rfl (d_cons (s_var (i := 0) rfl (by first | exact Or.inl rfl | exact Or.inr (Or.inl rfl) | exact Or.inr (Or.inr rfl)) rfl rfl) d_nil rfl) (by decide) rfl rfl) (s_cst pe_int (fun _ _ => .int _)) rfl)
      (st_cons (st_ret (s_bin (op := .add) (s_bin (op := .mul) (s_cst pe_int (fun _ _ => .int _)) (s_var (i := 1) rfl (by first | exact Or.inl rfl | exact Or.inr (Or.inl rfl) | exact Or.inr (Or.inr rfl)) rfl rfl)) (s_cst pe_int (fun _ _ => .int _))))
      st_nil)
      st_nil)
      (st_cons (st_ret (s_bin (op := .add) (s_bin (op := .mod) (s_ix (s_var (i := 0) rfl (by first | exact Or.inl rfl | exact Or.inr (Or.inl rfl) | exact Or.inr (Or.inr rfl)) rfl rfl) (s_bin (op := .mod) (s_var (i := 1) rfl (by first | exact Or.inl rfl | exact Or.inr (Or.inl rfl) | exact Or.inr (Or.inr rfl)) rfl rfl) (s_biF (b := .len) (id := "len") rfl rfl rfl rfl T.z_len rfl (d_cons (s_var (i := 0) rfl (by first | exact Or.inl rfl | exact Or.inr (Or.inl rfl) | exact Or.inr (Or.inr rfl)) rfl rfl) d_nil rfl) (by decide) rfl rfl)) (fun _ _ => rfl)) (s_cst pe_int (fun _ _ => .int _))) (s_bin (op := .mul) (s_cst pe_int (fun _ _ => .int _)) (s_var (i := 1) rfl (by first | exact Or.inl rfl | exact Or.inr (Or.inl rfl) | exact Or.inr (Or.inr rfl)) rfl rfl))))
      st_nil)))
/-- _law_draws -/
theorem body10 (T : Txt K mg base Z fds cc) (o : OkAt P w K mg base Z fds n) : FnOk P w K mg base (L2N.CX P w) (n + 1) (Z.fa 10) (fds 10) ["script", "k", "many", "base"] (spF Z false (callF D (n + 1) 10) 4) := by
  refine def_ok (D := D) (f := 10) (d := def10) rfl T.F10 sc10 rfl rfl fun bs cdv B outer s H E hl hcd hr => ?_
  have hz : bs.lp = none := hl.mpr rfl
  exact (st_cons (st_asg (i := 4) (.inl hz) sc10.nd rfl (by first | exact Or.inl rfl | exact Or.inr rfl) (s_tup (a_cons (s_cst pe_int (fun _ _ => .int _)) (a_cons (s_cst pe_int (fun _ _ => .int _)) (a_cons (s_cst pe_int (fun _ _ => .int _)) (a_cons (s_cst pe_int (fun _ _ => .int _)) (a_cons (s_cst pe_int (fun _ _ => .int _)) (a_cons (s_cst pe_int (fun _ _ => .int _)) (a_cons (s_cst pe_int (fun _ _ => .int _)) (a_cons (s_cst pe_int (fun _ _ => .int _)) a_nil rfl) rfl) rfl) rfl) rfl) rfl) rfl) rfl)) rfl (by first | exact Or.inl rfl | exact Or.inr rfl))
      (st_cons (st_asg (i := 5) (.inl hz) sc10.nd rfl (by first | exact Or.inl rfl | exact Or.inr rfl) (s_call (f := 9) o.o9 (callF_np (d := def9) rfl) hr rfl T.g9 T.F9.kp T.b9 (L2N.takes_of rfl rfl rfl rfl) (a_cons (s_var (i := 0) rfl (by first | exact Or.inl rfl | exact Or.inr (Or.inl rfl) | exact Or.inr (Or.inr rfl)) rfl rfl) (a_cons (s_var (i := 1) rfl (by first | exact Or.inl rfl | exact Or.inr (Or.inl rfl) | exact Or.inr (Or.inr rfl)) rfl rfl) a_nil rfl) rfl) rfl rfl) rfl (by first | exact Or.inl rfl | exact Or.inr rfl))
      (st_cons (st_asg (i := 6) (.inl hz) sc10.nd rfl (by first | exact Or.inl rfl | exact Or.inr rfl) (s_cst pe_int (fun _ _ => .int _)) rfl (by first | exact Or.inl rfl | exact Or.inr rfl))
      (st_cons (st_if (t_cmp (op := .ge) (room65 hr) (s_var (i := 5) rfl (by first | exact Or.inl rfl | exact Or.inr (Or.inl rfl) | exact Or.inr (Or.inr rfl)) rfl rfl) (s_bin (op := .pow) (s_cst pe_int (fun _ _ => .int _)) (s_cst pe_int (fun _ _ => .int _))) rfl)
      (st_cons (st_asg (i := 6) (.inl hz) sc10.nd rfl (by first | exact Or.inl rfl | exact Or.inr rfl) (s_var (i := 5) rfl (by first | exact Or.inl rfl | exact Or.inr (Or.inl rfl) | exact Or.inr (Or.inr rfl)) rfl rfl) rfl (by first | exact Or.inl rfl | exact Or.inr rfl))
      st_nil)
      st_nil)
      (st_cons (st_asg (i := 7) (.inl hz) sc10.nd rfl (by first | exact Or.inl rfl | exact Or.inr rfl) (s_lst a_nil) rfl (by first | exact Or.inl rfl | exact Or.inr rfl))
      (st_cons (st_for (.inl hz) (passes_of rfl) rfl (i_rng1 rfl T.z_range (s_var (i := 2) rfl (by first | exact Or.inl rfl | exact Or.inr (Or.inl rfl) | exact Or.inr (Or.inr rfl)) rfl rfl) rfl) (g_nm (i := 8) sc10.nd rfl (by first | exact Or.inl rfl | exact Or.inr rfl) (by first | exact Or.inl rfl | exact Or.inr rfl))
      (st_cons (st_asg (i := 9) (.inl hz) sc10.nd rfl (by first | exact Or.inl rfl | exact Or.inr rfl) (s_bin (op := .mul) (s_bin (op := .mod) (s_var (i := 5) rfl (by first | exact Or.inl rfl | exact Or.inr (Or.inl rfl) | exact Or.inr (Or.inr rfl)) rfl rfl) (s_ix (s_var (i := 4) rfl (by first | exact Or.inl rfl | exact Or.inr (Or.inl rfl) | exact Or.inr (Or.inr rfl)) rfl rfl) (s_bin (op := .mod) (s_var (i := 8) rfl (by first | exact Or.inl rfl | exact Or.inr (Or.inl rfl) | exact Or.inr (Or.inr rfl)) rfl rfl) (s_cst pe_int (fun _ _ => .int _))) (fun _ _ => rfl))) (s_bin (op := .add) (s_cst pe_int (fun _ _ => .int _)) (s_bin (op := .mul) (s_bin (op := .mul) (s_cst pe_int (fun _ _ => .int _)) (s_var (i := 8) rfl (by first | exact Or.inl rfl | exact Or.inr (Or.inl rfl) | exact Or.inr (Or.inr rfl)) rfl rfl)) (s_var (i := 8) rfl (by first | exact Or.inl rfl | exact Or.inr (Or.inl rfl) | exact Or.inr (Or.inr rfl)) rfl rfl)))) rfl (by first | exact Or.inl rfl | exact Or.inr rfl))
      (st_cons (st_asg (i := 9) (.inl hz) sc10.nd rfl (by first | exact Or.inl rfl | exact Or.inr rfl) (s_bin (op := .add) (s_bin (op := .add) (s_var (i := 9) rfl (by first | exact Or.inl rfl | exact Or.inr (Or.inl rfl) | exact Or.inr (Or.inr rfl)) rfl rfl) (s_bin (op := .mul) (s_bin (op := .mul) (s_cst pe_int (fun _ _ => .int _)) (s_bin (op := .add) (s_var (i := 8) rfl (by first | exact Or.inl rfl | exact Or.inr (Or.inl rfl) | exact Or.inr (Or.inr rfl)) rfl rfl) (s_cst pe_int (fun _ _ => .int _)))) (s_bin (op := .add) (s_var (i := 8) rfl (by first | exact Or.inl rfl | exact Or.inr (Or.inl rfl) | exact Or.inr (Or.inr rfl)) rfl rfl) (s_cst pe_int (fun _ _ => .int _))))) (s_bin (op := .mul) (s_cst pe_int (fun _ _ => .int _)) (s_var (i := 1) rfl (by first | exact Or.inl rfl | exact Or.inr (Or.inl rfl) | exact Or.inr (Or.inr rfl)) rfl rfl))) rfl (by first | exact Or.inl rfl | exact Or.inr rfl))
      (st_cons (st_asg (i := 9) (.inl hz) sc10.nd rfl (by first | exact Or.inl rfl | exact Or.inr rfl) (s_bin (op := .mod) (s_var (i := 9) rfl (by first | exact Or.inl rfl | exact Or.inr (Or.inl rfl) | exact Or.inr (Or.inr rfl)) rfl rfl) (s_ix (s_var (i := 4) rfl (by first | exact Or.inl rfl | exact Or.inr (Or.inl rfl) | exact Or.inr (Or.inr rfl)) rfl rfl) (s_bin (op := .mod) (s_bin (op := .add) (s_bin (op := .mul) (s_cst pe_int (fun _ _ => .int _)) (s_var (i := 8) rfl (by first | exact Or.inl rfl | exact Or.inr (Or.inl rfl) | exact Or.inr (Or.inr rfl)) rfl rfl)) (s_var (i := 1) rfl (by first | exact Or.inl rfl | exact Or.inr (Or.inl rfl) | exact Or.inr (Or.inr rfl)) rfl rfl)) (s_cst pe_int (fun _ _ => .int _))) (fun _ _ => rfl))) rfl (by first | exact Or.inl rfl | exact Or.inr rfl))
      (st_cons (st_asg (i := 9) (.inl hz) sc10.nd rfl (by first | exact Or.inl rfl | exact Or.inr rfl) (s_bin (op := .mod) (s_bin (op := .mul) (s_bin (op := .mul) (s_var (i := 9) rfl (by first | exact Or.inl rfl | exact Or.inr (Or.inl rfl) | exact Or.inr (Or.inr rfl)) rfl rfl) (s_var (i := 9) rfl (by first | exact Or.inl rfl | exact Or.inr (Or.inl rfl) | exact Or.inr (Or.inr rfl)) rfl rfl)) (s_var (i := 9) rfl (by first | exact Or.inl rfl | exact Or.inr (Or.inl rfl) | exact Or.inr (Or.inr rfl)) rfl rfl)) (s_ix (s_var (i := 4) rfl (by first | exact Or.inl rfl | exact Or.inr (Or.inl rfl) | exact Or.inr (Or.inr rfl)) rfl rfl) (s_bin (op := .mod) (s_bin (op := .add) (s_var (i := 8) rfl (by first | exact Or.inl rfl | exact Or.inr (Or.inl rfl) | exact Or.inr (Or.inr rfl)) rfl rfl) (s_cst pe_int (fun _ _ => .int _))) (s_cst pe_int (fun _ _ => .int _))) (fun _ _ => rfl))) rfl (by first | exact Or.inl rfl | exact Or.inr rfl))
      (st_cons (st_if (t_cmp (op := .gt) (room65 hr) (s_var (i := 6) rfl (by first | exact Or.inl rfl | exact Or.inr (Or.inl rfl) | exact Or.inr (Or.inr rfl)) rfl rfl) (s_cst pe_int (fun _ _ => .int _)) rfl)
      (st_cons (st_asg (i := 9) (.inl hz) sc10.nd rfl (by first | exact Or.inl rfl | exact Or.inr rfl) (s_var (i := 6) rfl (by first | exact Or.inl rfl | exact Or.inr (Or.inl rfl) | exact Or.inr (Or.inr rfl)) rfl rfl) rfl (by first | exact Or.inl rfl | exact Or.inr rfl))
      st_nil)
      st_nil)
      (st_cons (st_app (i := 7) rfl (by first | exact Or.inl rfl | exact Or.inr (Or.inl rfl) | exact Or.inr (Or.inr rfl)) rfl rfl (s_bin (op := .mod) (s_var (i := 9) rfl (by first | exact Or.inl rfl | exact Or.inr (Or.inl rfl) | exact Or.inr (Or.inr rfl)) rfl rfl) (s_var (i := 3) rfl (by first | exact Or.inl rfl | exact Or.inr (Or.inl rfl) | exact Or.inr (Or.inr rfl)) rfl rfl)) rfl rfl)
      (st_cons (st_asg (i := 6) (.inl hz) sc10.nd rfl (by first | exact Or.inl rfl | exact Or.inr rfl) (s_bin (op := .fdv) (s_var (i := 6) rfl (by first | exact Or.inl rfl | exact Or.inr (Or.inl rfl) | exact Or.inr (Or.inr rfl)) rfl rfl) (s_var (i := 3) rfl (by first | exact Or.inl rfl | exact Or.inr (Or.inl rfl) | exact Or.inr (Or.inr rfl)) rfl rfl)) rfl (by first | exact Or.inl rfl | exact Or.inr rfl))
      st_nil))))))) (fun _ => rfl))
      (st_cons (st_ret (s_var (i := 7) rfl (by first | exact Or.inl rfl | exact Or.inr (Or.inl rfl) | exact Or.inr (Or.inr rfl)) rfl rfl))
      st_nil)))))))
/-- _law_bag -/
theorem body11 (T : Txt K mg base Z fds cc) (o : OkAt P w K mg base Z fds n) : FnOk P w K mg base (L2N.CX P w) (n + 1) (Z.fa 11) (fds 11) ["script", "k"] (spF Z false (callF D (n + 1) 11) 2) := by
  refine def_ok (D := D) (f := 11) (d := def11) rfl T.F11 sc11 rfl rfl fun bs cdv B outer s H E hl hcd hr => ?_
  have hz : bs.lp = none := hl.mpr rfl
  exact (st_cons (st_ret (s_call (f := 10) o.o10 (callF_np (d := def10) rfl) hr rfl T.g10 T.F10.kp T.b10 (L2N.takes_of rfl rfl rfl rfl) (a_cons (s_var (i := 0) rfl (by first | exact Or.inl rfl | exact Or.inr (Or.inl rfl) | exact Or.inr (Or.inr rfl)) rfl rfl) (a_cons (s_var (i := 1) rfl (by first | exact Or.inl rfl | exact Or.inr (Or.inl rfl) | exact Or.inr (Or.inr rfl)) rfl rfl) (a_cons (s_cst pe_int (fun _ _ => .int _)) (a_cons (s_cst pe_int (fun _ _ => .int _)) a_nil rfl) rfl) rfl) rfl) rfl rfl))
      st_nil)
/-- _law_take -/
theorem body12 (T : Txt K mg base Z fds cc) (o : OkAt P w K mg base Z fds n) : FnOk P w K mg base (L2N.CX P w) (n + 1) (Z.fa 12) (fds 12) ["bag", "many"] (spF Z true (callF D (n + 1) 12) 2) := by
  refine def_ok (D := D) (f := 12) (d := def12) rfl T.F12 sc12 rfl rfl fun bs cdv B outer s H E hl hcd hr => ?_
  exact (st_cons (st_asg (i := 2) (.inr (by decide)) sc12.nd rfl (by first | exact Or.inl rfl | exact Or.inr rfl) (s_ite (t_cmp (op := .ne) (room65 hr) (s_var (i := 0) rfl (by first | exact Or.inl rfl | exact Or.inr (Or.inl rfl) | exact Or.inr (Or.inr rfl)) rfl rfl) (s_lst a_nil) rfl) (s_pop0 (i := 0) rfl (by first | exact Or.inl rfl | exact Or.inr (Or.inl rfl) | exact Or.inr (Or.inr rfl)) rfl rfl rfl) (s_cst pe_int (fun _ _ => .int _))) rfl (by first | exact Or.inl rfl | exact Or.inr rfl))
      (st_cons (st_ret (s_bin (op := .mod) (s_biT (b := .int) (id := "int") rfl rfl rfl rfl T.z_int rfl (d_cons (s_var (i := 2) rfl (by first | exact Or.inl rfl | exact Or.inr (Or.inl rfl) | exact Or.inr (Or.inr rfl)) rfl rfl) d_nil rfl) (by decide) rfl rfl) (s_var (i := 1) rfl (by first | exact Or.inl rfl | exact Or.inr (Or.inl rfl) | exact Or.inr (Or.inr rfl)) rfl rfl)))
      st_nil))
/-- _law_choice -/
theorem body13 (T : Txt K mg base Z fds cc) (o : OkAt P w K mg base Z fds n) : FnOk P w K mg base (L2N.CX P w) (n + 1) (Z.fa 13) (fds 13) ["bag", "some"] (spF Z true (callF D (n + 1) 13) 2) := by
  refine def_ok (D := D) (f := 13) (d := def13) rfl T.F13 sc13 rfl rfl fun bs cdv B outer s H E hl hcd hr => ?_
  exact (st_cons (st_ret (s_ix (s_var (i := 1) rfl (by first | exact Or.inl rfl | exact Or.inr (Or.inl rfl) | exact Or.inr (Or.inr rfl)) rfl rfl) (s_callb (f := 12) (i := 0) o.o12 (callF_np (d := def12) rfl) hr rfl T.g12 T.F12.kp T.b12 rfl (by first | exact Or.inl rfl | exact Or.inr (Or.inl rfl) | exact Or.inr (Or.inr rfl)) rfl rfl (L2N.takes_of rfl rfl rfl rfl) (a_cons (s_biF (b := .len) (id := "len") rfl rfl rfl rfl T.z_len rfl (d_cons (s_var (i := 1) rfl (by first | exact Or.inl rfl | exact Or.inr (Or.inl rfl) | exact Or.inr (Or.inr rfl)) rfl rfl) d_nil rfl) (by decide) rfl rfl) a_nil rfl) rfl rfl) (fun _ _ => rfl)))
      st_nil)
/-- _law_script -/
theorem body14 (T : Txt K mg base Z fds cc) (o : OkAt P w K mg base Z fds n) : FnOk P w K mg base (L2N.CX P w) (n + 1) (Z.fa 14) (fds 14) ["bag", "most", "wheels"] (spF Z true (callF D (n + 1) 14) 3) := by
  refine def_ok (D := D) (f := 14) (d := def14) rfl T.F14 sc14 rfl rfl fun bs cdv B outer s H E hl hcd hr => ?_
  exact (st_cons (st_asg (i := 2) (.inr (by decide)) sc14.nd rfl (by first | exact Or.inl rfl | exact Or.inr rfl) (s_bin (op := .add) (s_cst pe_int (fun _ _ => .int _)) (s_callb (f := 12) (i := 0) o.o12 (callF_np (d := def12) rfl) hr rfl T.g12 T.F12.kp T.b12 rfl (by first | exact Or.inl rfl | exact Or.inr (Or.inl rfl) | exact Or.inr (Or.inr rfl)) rfl rfl (L2N.takes_of rfl rfl rfl rfl) (a_cons (s_var (i := 2) rfl (by first | exact Or.inl rfl | exact Or.inr (Or.inl rfl) | exact Or.inr (Or.inr rfl)) rfl rfl) a_nil rfl) rfl rfl)) rfl (by first | exact Or.inl rfl | exact Or.inr rfl))
      (st_cons (st_asg (i := 3) (.inr (by decide)) sc14.nd rfl (by first | exact Or.inl rfl | exact Or.inr rfl) (s_lst a_nil) rfl (by first | exact Or.inl rfl | exact Or.inr rfl))
      (st_cons (st_for (.inr (by decide)) (passes_of rfl) rfl (i_rng1 rfl T.z_range (s_callb (f := 12) (i := 0) o.o12 (callF_np (d := def12) rfl) hr rfl T.g12 T.F12.kp T.b12 rfl (by first | exact Or.inl rfl | exact Or.inr (Or.inl rfl) | exact Or.inr (Or.inr rfl)) rfl rfl (L2N.takes_of rfl rfl rfl rfl) (a_cons (s_bin (op := .add) (s_var (i := 1) rfl (by first | exact Or.inl rfl | exact Or.inr (Or.inl rfl) | exact Or.inr (Or.inr rfl)) rfl rfl) (s_cst pe_int (fun _ _ => .int _))) a_nil rfl) rfl rfl) rfl) (g_nm (i := 4) sc14.nd rfl (by first | exact Or.inl rfl | exact Or.inr rfl) (by first | exact Or.inl rfl | exact Or.inr rfl))
      (st_cons (st_par2 (i := 5) (j := 6) (.inr (by decide)) rfl sc14.nd rfl rfl (by decide) rfl rfl (v_cons (s_callb (f := 12) (i := 0) o.o12 (callF_np (d := def12) rfl) hr rfl T.g12 T.F12.kp T.b12 rfl (by first | exact Or.inl rfl | exact Or.inr (Or.inl rfl) | exact Or.inr (Or.inr rfl)) rfl rfl (L2N.takes_of rfl rfl rfl rfl) (a_cons (s_var (i := 2) rfl (by first | exact Or.inl rfl | exact Or.inr (Or.inl rfl) | exact Or.inr (Or.inr rfl)) rfl rfl) a_nil rfl) rfl rfl) (v_cons (s_bin (op := .add) (s_cst pe_int (fun _ _ => .int _)) (s_callb (f := 13) (i := 0) o.o13 (callF_np (d := def13) rfl) hr rfl T.g13 T.F13.kp T.b13 rfl (by first | exact Or.inl rfl | exact Or.inr (Or.inl rfl) | exact Or.inr (Or.inr rfl)) rfl rfl (L2N.takes_of rfl rfl rfl rfl) (a_cons (s_lst (a_cons (s_cst pe_int (fun _ _ => .int _)) (a_cons (s_cst pe_int (fun _ _ => .int _)) (a_cons (s_cst pe_int (fun _ _ => .int _)) (a_cons (s_cst pe_int (fun _ _ => .int _)) (a_cons (s_cst pe_int (fun _ _ => .int _)) (a_cons (s_cst pe_int (fun _ _ => .int _)) a_nil rfl) rfl) rfl) rfl) rfl) rfl)) a_nil rfl) rfl rfl)) v_nil rfl) rfl) rfl rfl)
      (st_cons (st_if (t_cmp (op := .eq) (room65 hr) (s_callb (f := 12) (i := 0) o.o12 (callF_np (d := def12) rfl) hr rfl T.g12 T.F12.kp T.b12 rfl (by first | exact Or.inl rfl | exact Or.inr (Or.inl rfl) | exact Or.inr (Or.inr rfl)) rfl rfl (L2N.takes_of rfl rfl rfl rfl) (a_cons (s_cst pe_int (fun _ _ => .int _)) a_nil rfl) rfl rfl) (s_cst pe_int (fun _ _ => .int _)) rfl)
      (st_cons (st_asg (i := 6) (.inr (by decide)) sc14.nd rfl (by first | exact Or.inl rfl | exact Or.inr rfl) (s_neg (s_var (i := 6) rfl (by first | exact Or.inl rfl | exact Or.inr (Or.inl rfl) | exact Or.inr (Or.inr rfl)) rfl rfl)) rfl (by first | exact Or.inl rfl | exact Or.inr rfl))
      st_nil)
      st_nil)
      (st_cons (st_asg (i := 7) (.inr (by decide)) sc14.nd rfl (by first | exact Or.inl rfl | exact Or.inr rfl) (s_callb (f := 13) (i := 0) o.o13 (callF_np (d := def13) rfl) hr rfl T.g13 T.F13.kp T.b13 rfl (by first | exact Or.inl rfl | exact Or.inr (Or.inl rfl) | exact Or.inr (Or.inr rfl)) rfl rfl (L2N.takes_of rfl rfl rfl rfl) (a_cons (s_lst (a_cons (s_cst pe_str (fun _ _ => .str _)) (a_cons (s_cst pe_str (fun _ _ => .str _)) (a_cons (s_cst pe_str (fun _ _ => .str _)) (a_cons (s_cst pe_str (fun _ _ => .str _)) (a_cons (s_cst pe_str (fun _ _ => .str _)) a_nil rfl) rfl) rfl) rfl) rfl)) a_nil rfl) rfl rfl) rfl (by first | exact Or.inl rfl | exact Or.inr rfl))
      (st_cons (st_app (i := 3) rfl (by first | exact Or.inl rfl | exact Or.inr (Or.inl rfl) | exact Or.inr (Or.inr rfl)) rfl rfl (s_ite (t_cmp (op := .eq) (room65 hr) (s_var (i := 7) rfl (by first | exact Or.inl rfl | exact Or.inr (Or.inl rfl) | exact Or.inr (Or.inr rfl)) rfl rfl) (s_cst pe_str (fun _ _ => .str _)) rfl) (s_tup (a_cons (s_var (i := 7) rfl (by first | exact Or.inl rfl | exact Or.inr (Or.inl rfl) | exact Or.inr (Or.inr rfl)) rfl rfl) (a_cons (s_var (i := 5) rfl (by first | exact Or.inl rfl | exact Or.inr (Or.inl rfl) | exact Or.inr (Or.inr rfl)) rfl rfl) a_nil rfl) rfl)) (s_tup (a_cons (s_var (i := 7) rfl (by first | exact Or.inl rfl | exact Or.inr (Or.inl rfl) | exact Or.inr (Or.inr rfl)) rfl rfl) (a_cons (s_var (i := 5) rfl (by first | exact Or.inl rfl | exact Or.inr (Or.inl rfl) | exact Or.inr (Or.inr rfl)) rfl rfl) (a_cons (s_var (i := 6) rfl (by first | exact Or.inl rfl | exact Or.inr (Or.inl rfl) | exact Or.inr (Or.inr rfl)) rfl rfl) a_nil rfl) rfl) rfl))) rfl rfl)
      st_nil)))) (fun _ => rfl))
      (st_cons (st_ret (s_tup (a_cons (s_var (i := 2) rfl (by first | exact Or.inl rfl | exact Or.inr (Or.inl rfl) | exact Or.inr (Or.inr rfl)) rfl rfl) (a_cons (s_biT (b := .tuple) (id := "tuple") rfl rfl rfl rfl T.z_tuple rfl (d_cons (s_var (i := 3) rfl (by first | exact Or.inl rfl | exact Or.inr (Or.inl rfl) | exact Or.inr (Or.inr rfl)) rfl rfl) d_nil rfl) (by decide) rfl rfl) a_nil rfl) rfl)))
      st_nil))))
/-- _law_named_error -/
theorem body15 (T : Txt K mg base Z fds cc) (o : OkAt P w K mg base Z fds n) : FnE P w K mg base (n + 1) 2 (Z.fa 15) (fds 15) ["e"] Z (callF D (n + 1) 15) := by
  refine fnE_of (D := D) (f := 15) (d := def15) rfl rfl rfl T.F15 sc15 rfl rfl fun bs cdv B outer s H E p c hz hcn hx => ?_
  exact (st_cons (st_asg (i := 1) (.inl hz) sc15.nd rfl (by first | exact Or.inl rfl | exact Or.inr rfl) (s_lst (a_cons (s_isX hx (clsX T hcn (by decide) (by decide)) rfl T.z_isinstance rfl T.cg0 rfl (s_var (i := 0) rfl (by first | exact Or.inl rfl | exact Or.inr (Or.inl rfl) | exact Or.inr (Or.inr rfl)) rfl rfl) rfl) (a_cons (s_isX hx (clsX T hcn (by decide) (by decide)) rfl T.z_isinstance rfl T.cg3 rfl (s_var (i := 0) rfl (by first | exact Or.inl rfl | exact Or.inr (Or.inl rfl) | exact Or.inr (Or.inr rfl)) rfl rfl) rfl) (a_cons (s_isX hx (clsX T hcn (by decide) (by decide)) rfl T.z_isinstance rfl T.cg4 rfl (s_var (i := 0) rfl (by first | exact Or.inl rfl | exact Or.inr (Or.inl rfl) | exact Or.inr (Or.inr rfl)) rfl rfl) rfl) a_nil rfl) rfl) rfl)) rfl (by first | exact Or.inl rfl | exact Or.inr rfl))
      (st_cons (st_asg (i := 1) (.inl hz) sc15.nd rfl (by first | exact Or.inl rfl | exact Or.inr rfl) (s_bin (op := .add) (s_var (i := 1) rfl (by first | exact Or.inl rfl | exact Or.inr (Or.inl rfl) | exact Or.inr (Or.inr rfl)) rfl rfl) (s_lst (a_cons (s_isX hx (clsX T hcn (by decide) (by decide)) rfl T.z_isinstance rfl T.cg5 rfl (s_var (i := 0) rfl (by first | exact Or.inl rfl | exact Or.inr (Or.inl rfl) | exact Or.inr (Or.inr rfl)) rfl rfl) rfl) (a_cons (s_isX hx (clsX T hcn (by decide) (by decide)) rfl T.z_isinstance rfl T.cg6 rfl (s_var (i := 0) rfl (by first | exact Or.inl rfl | exact Or.inr (Or.inl rfl) | exact Or.inr (Or.inr rfl)) rfl rfl) rfl) (a_cons (s_isX hx (clsX T hcn (by decide) (by decide)) rfl T.z_isinstance rfl T.cg7 rfl (s_var (i := 0) rfl (by first | exact Or.inl rfl | exact Or.inr (Or.inl rfl) | exact Or.inr (Or.inr rfl)) rfl rfl) rfl) a_nil rfl) rfl) rfl))) rfl (by first | exact Or.inl rfl | exact Or.inr rfl))
      (st_cons (st_asg (i := 1) (.inl hz) sc15.nd rfl (by first | exact Or.inl rfl | exact Or.inr rfl) (s_bin (op := .add) (s_var (i := 1) rfl (by first | exact Or.inl rfl | exact Or.inr (Or.inl rfl) | exact Or.inr (Or.inr rfl)) rfl rfl) (s_lst (a_cons (s_isX hx (clsX T hcn (by decide) (by decide)) rfl T.z_isinstance rfl T.cg8 rfl (s_var (i := 0) rfl (by first | exact Or.inl rfl | exact Or.inr (Or.inl rfl) | exact Or.inr (Or.inr rfl)) rfl rfl) rfl) (a_cons (s_isX hx (clsX T hcn (by decide) (by decide)) rfl T.z_isinstance rfl T.cg1 rfl (s_var (i := 0) rfl (by first | exact Or.inl rfl | exact Or.inr (Or.inl rfl) | exact Or.inr (Or.inr rfl)) rfl rfl) rfl) (a_cons (s_isX hx (clsX T hcn (by decide) (by decide)) rfl T.z_isinstance rfl T.cg9 rfl (s_var (i := 0) rfl (by first | exact Or.inl rfl | exact Or.inr (Or.inl rfl) | exact Or.inr (Or.inr rfl)) rfl rfl) rfl) a_nil rfl) rfl) rfl))) rfl (by first | exact Or.inl rfl | exact Or.inr rfl))
      (st_cons (st_asg (i := 1) (.inl hz) sc15.nd rfl (by first | exact Or.inl rfl | exact Or.inr rfl) (s_bin (op := .add) (s_var (i := 1) rfl (by first | exact Or.inl rfl | exact Or.inr (Or.inl rfl) | exact Or.inr (Or.inr rfl)) rfl rfl) (s_lst (a_cons (s_isX hx (clsX T hcn (by decide) (by decide)) rfl T.z_isinstance rfl T.cg10 rfl (s_var (i := 0) rfl (by first | exact Or.inl rfl | exact Or.inr (Or.inl rfl) | exact Or.inr (Or.inr rfl)) rfl rfl) rfl) a_nil rfl))) rfl (by first | exact Or.inl rfl | exact Or.inr rfl))
      (st_cons (st_asg (i := 2) (.inl hz) sc15.nd rfl (by first | exact Or.inl rfl | exact Or.inr rfl) (s_cst pe_str (fun _ _ => .str _)) rfl (by first | exact Or.inl rfl | exact Or.inr rfl))
      (st_cons (st_ret (s_join (s_cst pe_str (fun _ _ => .str _)) (s_lcB (B := BHot) (own := [("label", 3), ("good", 4)]) (fun pins σ H s fp I f => bhot_blk hx.hot pins σ H s fp I f) sc15.nd (i_zipH rfl T.z_zip (s_split (s_var (i := 2) rfl (by first | exact Or.inl rfl | exact Or.inr (Or.inl rfl) | exact Or.inr (Or.inr rfl)) rfl rfl) (s_cst pe_str (fun _ _ => .str _)) rfl rfl rfl) (s_var (i := 1) rfl (by first | exact Or.inl rfl | exact Or.inr (Or.inl rfl) | exact Or.inr (Or.inr rfl)) rfl rfl) rfl rfl) (blk_by (by kernel_rfl)) (by decide) (fun s H fp b1 => (g_tpH b1 (gs_cons (g_nm (i := 3) sc15.nd rfl (by first | exact Or.inl rfl | exact Or.inr rfl) (by first | exact Or.inl rfl | exact Or.inr rfl)) (gs_cons (g_nm (i := 4) sc15.nd rfl (by first | exact Or.inl rfl | exact Or.inr rfl) (by first | exact Or.inl rfl | exact Or.inr rfl)) gs_nil rfl) rfl) rfl (setTgs_bad _ _ rfl))) (fun s H fp b1 => (c_one (by intro z; cases z) (t_val (s_var (i := 4) rfl (by first | exact Or.inl rfl | exact Or.inr (Or.inl rfl) | exact Or.inr (Or.inr rfl)) rfl rfl) (fun _ => rfl)))) (fun s H fp b1 => (s_var (i := 3) rfl (by first | exact Or.inl rfl | exact Or.inr (Or.inl rfl) | exact Or.inr (Or.inr rfl)) rfl rfl)) (fun _ => rfl)) rfl rfl rfl))
      st_nil))))))
/-- _law_told -/
theorem body16 (T : Txt K mg base Z fds cc) (o : OkAt P w K mg base Z fds n) : FnOk P w K mg base (L2N.CX P w) (n + 1) (Z.fa 16) (fds 16) ["call"] (spF Z false (callF D (n + 1) 16) 1) := by
  refine def_ok (D := D) (f := 16) (d := def16) rfl T.F16 sc16 rfl rfl fun bs cdv B outer s H E hl hcd hr => ?_
  have hz : bs.lp = none := hl.mpr rfl
  exact (st_cons (st_try (n := 2) (i := 1) T.xa (.inl hz) rfl rfl sc16.nd rfl rfl ⟨rfl, by decide, .inl T.cg2⟩ (L2N.takes_of rfl rfl rfl rfl) T.exm (fun W pn xe tk _ =>
      (st_cons (st_ret (s_tup (a_cons (s_callv0 (i := 0) (fs := []) (ls := [22, 23, 24, 25, 26, 27]) (fun _ h => nomatch h) (fun d hd => lamHeldD T o hd) hr rfl (by first | exact Or.inl rfl | exact Or.inr (Or.inl rfl) | exact Or.inr (Or.inr rfl)) rfl rfl tk) (a_cons (s_cst pe_str (fun _ _ => .str _)) a_nil rfl) rfl)))
      st_nil))
      (fun a c oe pn hcn hx => (s_tup (a_cons (s_cst pe_non (fun _ _ => .non)) (a_cons (s_callx (f := 15) (i := 1) o.o15 rfl hcn ⟨hr.dp, hr.un⟩ hx rfl T.g15 T.F15.kp T.b15 rfl (by first | exact Or.inl rfl | exact Or.inr (Or.inl rfl) | exact Or.inr (Or.inr rfl)) rfl rfl takesF rfl) a_nil rfl) rfl))))
      st_nil)
/-- _law_text -/
theorem body17 (T : Txt K mg base Z fds cc) (o : OkAt P w K mg base Z fds n) : FnOk P w K mg base (L2N.CX P w) (n + 1) (Z.fa 17) (fds 17) ["script_so"] (spF Z false (callF D (n + 1) 17) 1) := by
  refine def_ok (D := D) (f := 17) (d := def17) rfl T.F17 sc17 rfl rfl fun bs cdv B outer s H E hl hcd hr => ?_
  have hz : bs.lp = none := hl.mpr rfl
  exact (st_cons (st_asg (i := 1) (.inl hz) sc17.nd rfl (by first | exact Or.inl rfl | exact Or.inr rfl) (s_lst (a_cons (s_bin (op := .add) (s_cst pe_str (fun _ _ => .str _)) (s_biT (b := .str) (id := "str") rfl rfl rfl rfl T.z_str rfl (d_cons (s_ix (s_var (i := 0) rfl (by first | exact Or.inl rfl | exact Or.inr (Or.inl rfl) | exact Or.inr (Or.inr rfl)) rfl rfl) (s_cst pe_int (fun _ _ => .int _)) (fun _ _ => rfl)) d_nil rfl) (by decide) rfl rfl)) a_nil rfl)) rfl (by first | exact Or.inl rfl | exact Or.inr rfl))
      (st_cons (st_for (.inl hz) (passes_of rfl) rfl (i_seq (s_ix (s_var (i := 0) rfl (by first | exact Or.inl rfl | exact Or.inr (Or.inl rfl) | exact Or.inr (Or.inr rfl)) rfl rfl) (s_cst pe_int (fun _ _ => .int _)) (fun _ _ => rfl))) (g_nm (i := 2) sc17.nd rfl (by first | exact Or.inl rfl | exact Or.inr rfl) (by first | exact Or.inl rfl | exact Or.inr rfl))
      (st_cons (st_app (i := 1) rfl (by first | exact Or.inl rfl | exact Or.inr (Or.inl rfl) | exact Or.inr (Or.inr rfl)) rfl rfl (s_join (s_cst pe_str (fun _ _ => .str _)) (s_lcB (B := BCalm) (own := [("part", 3)]) (fun pins σ H s fp I _ => bcalm_blk (own := [("part", 3)]) (blk_by (by kernel_rfl)) rfl (cb_cx (fun _ => rfl)) pins σ H s fp I) sc17.nd (pib_of (fun _ b => b.1) (i_seq (s_var (i := 2) rfl (by first | exact Or.inl rfl | exact Or.inr (Or.inl rfl) | exact Or.inr (Or.inr rfl)) rfl rfl))) (blk_by (by kernel_rfl)) (by decide) (fun s H fp b1 => (g_nm (i := 3) sc17.nd rfl (by first | exact Or.inl rfl | exact Or.inr rfl) (by first | exact Or.inl rfl | exact Or.inr rfl))) (fun s H fp b1 => c_nil) (fun s H fp b1 => (s_biT (b := .str) (id := "str") rfl rfl rfl rfl T.z_str rfl (d_cons (s_var (i := 3) rfl (by first | exact Or.inl rfl | exact Or.inr (Or.inl rfl) | exact Or.inr (Or.inr rfl)) rfl rfl) d_nil rfl) (by decide) rfl rfl)) (fun _ => rfl)) rfl rfl rfl) rfl rfl)
      st_nil) (fun _ => rfl))
      (st_cons (st_ret (s_join (s_cst pe_str (fun _ _ => .str _)) (s_var (i := 1) rfl (by first | exact Or.inl rfl | exact Or.inr (Or.inl rfl) | exact Or.inr (Or.inr rfl)) rfl rfl) rfl rfl rfl))
      st_nil)))
/-- _law_integer -/
theorem body18 (T : Txt K mg base Z fds cc) (o : OkAt P w K mg base Z fds n) : FnOk P w K mg base (L2N.CX P w) (n + 1) (Z.fa 18) (fds 18) ["word"] (spF Z false (callF D (n + 1) 18) 1) := by
  refine def_ok (D := D) (f := 18) (d := def18) rfl T.F18 sc18 rfl rfl fun bs cdv B outer s H E hl hcd hr => ?_
  have hz : bs.lp = none := hl.mpr rfl
  exact (st_cons (st_asg (i := 1) (.inl hz) sc18.nd rfl (by first | exact Or.inl rfl | exact Or.inr rfl) (s_ite (t_cmp (op := .eq) (room65 hr) (s_sl (s_var (i := 0) rfl (by first | exact Or.inl rfl | exact Or.inr (Or.inl rfl) | exact Or.inr (Or.inr rfl)) rfl rfl) o_nil (o_some (by intro z; cases z) (s_cst pe_int (fun _ _ => .int _)))) (s_cst pe_str (fun _ _ => .str _)) rfl) (s_sl (s_var (i := 0) rfl (by first | exact Or.inl rfl | exact Or.inr (Or.inl rfl) | exact Or.inr (Or.inr rfl)) rfl rfl) (o_some (by intro z; cases z) (s_cst pe_int (fun _ _ => .int _))) o_nil) (s_var (i := 0) rfl (by first | exact Or.inl rfl | exact Or.inr (Or.inl rfl) | exact Or.inr (Or.inr rfl)) rfl rfl)) rfl (by first | exact Or.inl rfl | exact Or.inr rfl))
      (st_cons (st_if (PW.pt (t_or (t_cmp (op := .eq) (room65 hr) (s_var (i := 1) rfl (by first | exact Or.inl rfl | exact Or.inr (Or.inl rfl) | exact Or.inr (Or.inr rfl)) rfl rfl) (s_cst pe_str (fun _ _ => .str _)) rfl) (t_or (t_cmp (op := .gt) (room65 hr) (s_biF (b := .len) (id := "len") rfl rfl rfl rfl T.z_len rfl (d_cons (s_var (i := 1) rfl (by first | exact Or.inl rfl | exact Or.inr (Or.inl rfl) | exact Or.inr (Or.inr rfl)) rfl rfl) d_nil rfl) (by decide) rfl rfl) (s_cst pe_int (fun _ _ => .int _)) rfl) (t_or (t_cmp (op := .nin) (room65 hr) (s_var (i := 1) rfl (by first | exact Or.inl rfl | exact Or.inr (Or.inl rfl) | exact Or.inr (Or.inr rfl)) rfl rfl) (s_cst pe_str (fun _ _ => .str _)) rfl) (pw_or1 (t_cmp (op := .eq) (room65 hr) (s_var (i := 0) rfl (by first | exact Or.inl rfl | exact Or.inr (Or.inl rfl) | exact Or.inr (Or.inr rfl)) rfl rfl) (s_cst pe_str (fun _ _ => .str _)) rfl))))))
      (st_cons (st_ret (s_cst pe_non (fun _ _ => .non)))
      st_nil)
      st_nil)
      (st_cons (st_ret (s_biT (b := .int) (id := "int") rfl rfl rfl rfl T.z_int rfl (d_cons (s_var (i := 0) rfl (by first | exact Or.inl rfl | exact Or.inr (Or.inl rfl) | exact Or.inr (Or.inr rfl)) rfl rfl) d_nil rfl) (by decide) rfl rfl))
      st_nil)))
/-- _law_read -/
theorem body19 (T : Txt K mg base Z fds cc) (o : OkAt P w K mg base Z fds n) : FnOk P w K mg base (L2N.CX P w) (n + 1) (Z.fa 19) (fds 19) ["text"] (spF Z false (callF D (n + 1) 19) 1) := by
  refine def_ok (D := D) (f := 19) (d := def19) rfl T.F19 sc19 rfl rfl fun bs cdv B outer s H E hl hcd hr => ?_
  have hz : bs.lp = none := hl.mpr rfl
  exact (st_cons (st_asgCB (i := 1) (.inl hz) (B := BCalm) (own := [("line", 2)]) (fun pins σ H s fp I _ => bcalm_blk (own := [("line", 2)]) (blk_by (by kernel_rfl)) rfl (cb_cx (fun _ => rfl)) pins σ H s fp I) sc19.nd rfl rfl (sw_true rfl rfl rfl rfl) (pib_of (fun _ b => b.1) (i_seq (s_split (s_var (i := 0) rfl (by first | exact Or.inl rfl | exact Or.inr (Or.inl rfl) | exact Or.inr (Or.inr rfl)) rfl rfl) (s_cst pe_str (fun _ _ => .str _)) rfl rfl rfl))) (blk_by (by kernel_rfl)) (by decide) (fun s H fp b1 => (g_nm (i := 2) sc19.nd rfl (by first | exact Or.inl rfl | exact Or.inr rfl) (by first | exact Or.inl rfl | exact Or.inr rfl))) (fun s H fp b1 => c_nil) (fun s H fp b1 => (s_split (s_var (i := 2) rfl (by first | exact Or.inl rfl | exact Or.inr (Or.inl rfl) | exact Or.inr (Or.inr rfl)) rfl rfl) (s_cst pe_str (fun _ _ => .str _)) rfl rfl rfl)) (fun _ => rfl))
      (st_cons (st_if (PW.pt (t_or (t_cmp (op := .ne) (room65 hr) (s_ix (s_ix (s_var (i := 1) rfl (by first | exact Or.inl rfl | exact Or.inr (Or.inl rfl) | exact Or.inr (Or.inr rfl)) rfl rfl) (s_cst pe_int (fun _ _ => .int _)) (fun _ _ => rfl)) (s_cst pe_int (fun _ _ => .int _)) (fun _ _ => rfl)) (s_cst pe_str (fun _ _ => .str _)) rfl) (pw_or1 (t_cmp (op := .ne) (room65 hr) (s_biF (b := .len) (id := "len") rfl rfl rfl rfl T.z_len rfl (d_cons (s_ix (s_var (i := 1) rfl (by first | exact Or.inl rfl | exact Or.inr (Or.inl rfl) | exact Or.inr (Or.inr rfl)) rfl rfl) (s_cst pe_int (fun _ _ => .int _)) (fun _ _ => rfl)) d_nil rfl) (by decide) rfl rfl) (s_cst pe_int (fun _ _ => .int _)) rfl))))
      (st_cons (st_ret (s_cst pe_non (fun _ _ => .non)))
      st_nil)
      st_nil)
      (st_cons (st_asg (i := 3) (.inl hz) sc19.nd rfl (by first | exact Or.inl rfl | exact Or.inr rfl) (s_biT (b := .tuple) (id := "tuple") rfl rfl rfl rfl T.z_tuple rfl (d_cons (s_lcB (B := BCalm) (own := [("line", 2)]) (fun pins σ H s fp I _ => bcalm_blk (own := [("line", 2)]) (blk_by (by kernel_rfl)) rfl (cb_cx (fun _ => rfl)) pins σ H s fp I) sc19.nd (pib_of (fun _ b => b.1) (i_seq (s_sl (s_var (i := 1) rfl (by first | exact Or.inl rfl | exact Or.inr (Or.inl rfl) | exact Or.inr (Or.inr rfl)) rfl rfl) (o_some (by intro z; cases z) (s_cst pe_int (fun _ _ => .int _))) o_nil))) (blk_by (by kernel_rfl)) (by decide) (fun s H fp b1 => (g_nm (i := 2) sc19.nd rfl (by first | exact Or.inl rfl | exact Or.inr rfl) (by first | exact Or.inl rfl | exact Or.inr rfl))) (fun s H fp b1 => c_nil) (fun s H fp b1 => (s_bin (op := .add) (s_tup (a_cons (s_ix (s_var (i := 2) rfl (by first | exact Or.inl rfl | exact Or.inr (Or.inl rfl) | exact Or.inr (Or.inr rfl)) rfl rfl) (s_cst pe_int (fun _ _ => .int _)) (fun _ _ => rfl)) a_nil rfl)) (s_biT (b := .tuple) (id := "tuple") rfl rfl rfl rfl T.z_tuple rfl (d_cons (s_lcB (B := BCalm) (own := [("word", 4)]) (fun pins σ H s fp I _ => bcalm_blk (own := [("word", 4)]) (blk_by (by kernel_rfl)) rfl (fun _ => b1.2) pins σ H s fp I) sc19.nd (pib_of (fun _ b => b.1) (i_seq (s_sl (s_var (i := 2) rfl (by first | exact Or.inl rfl | exact Or.inr (Or.inl rfl) | exact Or.inr (Or.inr rfl)) rfl rfl) (o_some (by intro z; cases z) (s_cst pe_int (fun _ _ => .int _))) o_nil))) (blk_by (by kernel_rfl)) (by decide) (fun s H fp b2 => (g_nm (i := 4) sc19.nd rfl (by first | exact Or.inl rfl | exact Or.inr rfl) (by first | exact Or.inl rfl | exact Or.inr rfl))) (fun s H fp b2 => c_nil) (fun s H fp b2 => (s_call (f := 18) o.o18 (callF_np (d := def18) rfl) hr rfl T.g18 T.F18.kp T.b18 takesF (a_cons (s_var (i := 4) rfl (by first | exact Or.inl rfl | exact Or.inr (Or.inl rfl) | exact Or.inr (Or.inr rfl)) rfl rfl) a_nil rfl) rfl rfl)) (fun _ => rfl)) d_nil rfl) (by decide) rfl rfl))) (fun _ => rfl)) d_nil rfl) (by decide) rfl rfl) rfl (by first | exact Or.inl rfl | exact Or.inr rfl))
      (st_cons (st_asg (i := 5) (.inl hz) sc19.nd rfl (by first | exact Or.inl rfl | exact Or.inr rfl) (s_tup (a_cons (s_call (f := 18) o.o18 (callF_np (d := def18) rfl) hr rfl T.g18 T.F18.kp T.b18 (L2N.takes_of rfl rfl rfl rfl) (a_cons (s_ix (s_ix (s_var (i := 1) rfl (by first | exact Or.inl rfl | exact Or.inr (Or.inl rfl) | exact Or.inr (Or.inr rfl)) rfl rfl) (s_cst pe_int (fun _ _ => .int _)) (fun _ _ => rfl)) (s_cst pe_int (fun _ _ => .int _)) (fun _ _ => rfl)) a_nil rfl) rfl rfl) (a_cons (s_var (i := 3) rfl (by first | exact Or.inl rfl | exact Or.inr (Or.inl rfl) | exact Or.inr (Or.inr rfl)) rfl rfl) a_nil rfl) rfl)) rfl (by first | exact Or.inl rfl | exact Or.inr rfl))
      (st_cons (st_ret (s_ite (t_val (s_call (f := 3) o.o3 (callF_np (d := def3) rfl) hr rfl T.g3 T.F3.kp T.b3 (L2N.takes_of rfl rfl rfl rfl) (a_cons (s_var (i := 5) rfl (by first | exact Or.inl rfl | exact Or.inr (Or.inl rfl) | exact Or.inr (Or.inr rfl)) rfl rfl) a_nil rfl) rfl rfl) (fun _ => rfl)) (s_var (i := 5) rfl (by first | exact Or.inl rfl | exact Or.inr (Or.inl rfl) | exact Or.inr (Or.inr rfl)) rfl rfl) (s_cst pe_non (fun _ _ => .non))))
      st_nil)))))
/-- _law_bent -/
theorem body20 (T : Txt K mg base Z fds cc) (o : OkAt P w K mg base Z fds n) : FnOk P w K mg base (L2N.CX P w) (n + 1) (Z.fa 20) (fds 20) ["bag", "text"] (spF Z true (callF D (n + 1) 20) 2) := by
  refine def_ok (D := D) (f := 20) (d := def20) rfl T.F20 sc20 rfl rfl fun bs cdv B outer s H E hl hcd hr => ?_
  exact (st_cons (st_par2 (i := 2) (j := 3) (.inr (by decide)) rfl sc20.nd rfl rfl (by decide) rfl rfl (v_cons (s_callb (f := 12) (i := 0) o.o12 (callF_np (d := def12) rfl) hr rfl T.g12 T.F12.kp T.b12 rfl (by first | exact Or.inl rfl | exact Or.inr (Or.inl rfl) | exact Or.inr (Or.inr rfl)) rfl rfl (L2N.takes_of rfl rfl rfl rfl) (a_cons (s_bin (op := .add) (s_biF (b := .len) (id := "len") rfl rfl rfl rfl T.z_len rfl (d_cons (s_var (i := 1) rfl (by first | exact Or.inl rfl | exact Or.inr (Or.inl rfl) | exact Or.inr (Or.inr rfl)) rfl rfl) d_nil rfl) (by decide) rfl rfl) (s_cst pe_int (fun _ _ => .int _))) a_nil rfl) rfl rfl) (v_cons (s_callb (f := 12) (i := 0) o.o12 (callF_np (d := def12) rfl) hr rfl T.g12 T.F12.kp T.b12 rfl (by first | exact Or.inl rfl | exact Or.inr (Or.inl rfl) | exact Or.inr (Or.inr rfl)) rfl rfl (L2N.takes_of rfl rfl rfl rfl) (a_cons (s_cst pe_int (fun _ _ => .int _)) a_nil rfl) rfl rfl) v_nil rfl) rfl) rfl rfl)
      (st_cons (st_asg (i := 4) (.inr (by decide)) sc20.nd rfl (by first | exact Or.inl rfl | exact Or.inr rfl) (s_split (s_var (i := 1) rfl (by first | exact Or.inl rfl | exact Or.inr (Or.inl rfl) | exact Or.inr (Or.inr rfl)) rfl rfl) (s_cst pe_str (fun _ _ => .str _)) rfl rfl rfl) rfl (by first | exact Or.inl rfl | exact Or.inr rfl))
      (st_cons (st_asg (i := 5) (.inr (by decide)) sc20.nd rfl (by first | exact Or.inl rfl | exact Or.inr rfl) (s_callb (f := 12) (i := 0) o.o12 (callF_np (d := def12) rfl) hr rfl T.g12 T.F12.kp T.b12 rfl (by first | exact Or.inl rfl | exact Or.inr (Or.inl rfl) | exact Or.inr (Or.inr rfl)) rfl rfl (L2N.takes_of rfl rfl rfl rfl) (a_cons (s_biF (b := .len) (id := "len") rfl rfl rfl rfl T.z_len rfl (d_cons (s_var (i := 4) rfl (by first | exact Or.inl rfl | exact Or.inr (Or.inl rfl) | exact Or.inr (Or.inr rfl)) rfl rfl) d_nil rfl) (by decide) rfl rfl) a_nil rfl) rfl rfl) rfl (by first | exact Or.inl rfl | exact Or.inr rfl))
      (st_cons (st_if (t_cmp (op := .eq) (room65 hr) (s_var (i := 3) rfl (by first | exact Or.inl rfl | exact Or.inr (Or.inl rfl) | exact Or.inr (Or.inr rfl)) rfl rfl) (s_cst pe_int (fun _ _ => .int _)) rfl)
      (st_cons (st_asg (i := 6) (.inr (by decide)) sc20.nd rfl (by first | exact Or.inl rfl | exact Or.inr rfl) (s_callb (f := 13) (i := 0) o.o13 (callF_np (d := def13) rfl) hr rfl T.g13 T.F13.kp T.b13 rfl (by first | exact Or.inl rfl | exact Or.inr (Or.inl rfl) | exact Or.inr (Or.inr rfl)) rfl rfl (L2N.takes_of rfl rfl rfl rfl) (a_cons (s_lst (a_cons (s_cst pe_str (fun _ _ => .str _)) (a_cons (s_cst pe_str (fun _ _ => .str _)) (a_cons (s_cst pe_str (fun _ _ => .str _)) (a_cons (s_cst pe_str (fun _ _ => .str _)) (a_cons (s_cst pe_str (fun _ _ => .str _)) (a_cons (s_cst pe_str (fun _ _ => .str _)) (a_cons (s_cst pe_str (fun _ _ => .str _)) (a_cons (s_cst pe_str (fun _ _ => .str _)) (a_cons (s_cst pe_str (fun _ _ => .str _)) (a_cons (s_cst pe_str (fun _ _ => .str _)) a_nil rfl) rfl) rfl) rfl) rfl) rfl) rfl) rfl) rfl) rfl)) a_nil rfl) rfl rfl) rfl (by first | exact Or.inl rfl | exact Or.inr rfl))
      (st_cons (st_ret (s_bin (op := .add) (s_bin (op := .add) (s_sl (s_var (i := 1) rfl (by first | exact Or.inl rfl | exact Or.inr (Or.inl rfl) | exact Or.inr (Or.inr rfl)) rfl rfl) o_nil (o_some (by intro z; cases z) (s_var (i := 2) rfl (by first | exact Or.inl rfl | exact Or.inr (Or.inl rfl) | exact Or.inr (Or.inr rfl)) rfl rfl))) (s_var (i := 6) rfl (by first | exact Or.inl rfl | exact Or.inr (Or.inl rfl) | exact Or.inr (Or.inr rfl)) rfl rfl)) (s_sl (s_var (i := 1) rfl (by first | exact Or.inl rfl | exact Or.inr (Or.inl rfl) | exact Or.inr (Or.inr rfl)) rfl rfl) (o_some (by intro z; cases z) (s_var (i := 2) rfl (by first | exact Or.inl rfl | exact Or.inr (Or.inl rfl) | exact Or.inr (Or.inr rfl)) rfl rfl)) o_nil)))
      st_nil))
      st_nil)
      (st_cons (st_if (t_cmp (op := .eq) (room65 hr) (s_var (i := 3) rfl (by first | exact Or.inl rfl | exact Or.inr (Or.inl rfl) | exact Or.inr (Or.inr rfl)) rfl rfl) (s_cst pe_int (fun _ _ => .int _)) rfl)
      (st_cons (st_ret (s_bin (op := .add) (s_sl (s_var (i := 1) rfl (by first | exact Or.inl rfl | exact Or.inr (Or.inl rfl) | exact Or.inr (Or.inr rfl)) rfl rfl) o_nil (o_some (by intro z; cases z) (s_var (i := 2) rfl (by first | exact Or.inl rfl | exact Or.inr (Or.inl rfl) | exact Or.inr (Or.inr rfl)) rfl rfl))) (s_sl (s_var (i := 1) rfl (by first | exact Or.inl rfl | exact Or.inr (Or.inl rfl) | exact Or.inr (Or.inr rfl)) rfl rfl) (o_some (by intro z; cases z) (s_bin (op := .add) (s_var (i := 2) rfl (by first | exact Or.inl rfl | exact Or.inr (Or.inl rfl) | exact Or.inr (Or.inr rfl)) rfl rfl) (s_cst pe_int (fun _ _ => .int _)))) o_nil)))
      st_nil)
      st_nil)
      (st_cons (st_if (t_cmp (op := .eq) (room65 hr) (s_var (i := 3) rfl (by first | exact Or.inl rfl | exact Or.inr (Or.inl rfl) | exact Or.inr (Or.inr rfl)) rfl rfl) (s_cst pe_int (fun _ _ => .int _)) rfl)
      (st_cons (st_ret (s_join (s_cst pe_str (fun _ _ => .str _)) (s_bin (op := .add) (s_sl (s_var (i := 4) rfl (by first | exact Or.inl rfl | exact Or.inr (Or.inl rfl) | exact Or.inr (Or.inr rfl)) rfl rfl) o_nil (o_some (by intro z; cases z) (s_var (i := 5) rfl (by first | exact Or.inl rfl | exact Or.inr (Or.inl rfl) | exact Or.inr (Or.inr rfl)) rfl rfl))) (s_sl (s_var (i := 4) rfl (by first | exact Or.inl rfl | exact Or.inr (Or.inl rfl) | exact Or.inr (Or.inr rfl)) rfl rfl) (o_some (by intro z; cases z) (s_bin (op := .add) (s_var (i := 5) rfl (by first | exact Or.inl rfl | exact Or.inr (Or.inl rfl) | exact Or.inr (Or.inr rfl)) rfl rfl) (s_cst pe_int (fun _ _ => .int _)))) o_nil)) rfl rfl rfl))
      st_nil)
      st_nil)
      (st_cons (st_if (t_cmp (op := .eq) (room65 hr) (s_var (i := 3) rfl (by first | exact Or.inl rfl | exact Or.inr (Or.inl rfl) | exact Or.inr (Or.inr rfl)) rfl rfl) (s_cst pe_int (fun _ _ => .int _)) rfl)
      (st_cons (st_ret (s_join (s_cst pe_str (fun _ _ => .str _)) (s_bin (op := .add) (s_sl (s_var (i := 4) rfl (by first | exact Or.inl rfl | exact Or.inr (Or.inl rfl) | exact Or.inr (Or.inr rfl)) rfl rfl) o_nil (o_some (by intro z; cases z) (s_bin (op := .add) (s_var (i := 5) rfl (by first | exact Or.inl rfl | exact Or.inr (Or.inl rfl) | exact Or.inr (Or.inr rfl)) rfl rfl) (s_cst pe_int (fun _ _ => .int _))))) (s_sl (s_var (i := 4) rfl (by first | exact Or.inl rfl | exact Or.inr (Or.inl rfl) | exact Or.inr (Or.inr rfl)) rfl rfl) (o_some (by intro z; cases z) (s_var (i := 5) rfl (by first | exact Or.inl rfl | exact Or.inr (Or.inl rfl) | exact Or.inr (Or.inr rfl)) rfl rfl)) o_nil)) rfl rfl rfl))
      st_nil)
      st_nil)
      (st_cons (st_if (t_cmp (op := .eq) (room65 hr) (s_var (i := 3) rfl (by first | exact Or.inl rfl | exact Or.inr (Or.inl rfl) | exact Or.inr (Or.inr rfl)) rfl rfl) (s_cst pe_int (fun _ _ => .int _)) rfl)
      (st_cons (st_ret (s_join (s_cst pe_str (fun _ _ => .str _)) (s_bin (op := .add) (s_sl (s_var (i := 4) rfl (by first | exact Or.inl rfl | exact Or.inr (Or.inl rfl) | exact Or.inr (Or.inr rfl)) rfl rfl) (o_some (by intro z; cases z) (s_var (i := 5) rfl (by first | exact Or.inl rfl | exact Or.inr (Or.inl rfl) | exact Or.inr (Or.inr rfl)) rfl rfl)) o_nil) (s_sl (s_var (i := 4) rfl (by first | exact Or.inl rfl | exact Or.inr (Or.inl rfl) | exact Or.inr (Or.inr rfl)) rfl rfl) o_nil (o_some (by intro z; cases z) (s_var (i := 5) rfl (by first | exact Or.inl rfl | exact Or.inr (Or.inl rfl) | exact Or.inr (Or.inr rfl)) rfl rfl)))) rfl rfl rfl))
      st_nil)
      st_nil)
      (st_cons (st_ret (s_join (s_cst pe_str (fun _ _ => .str _)) (s_bin (op := .add) (s_sl (s_var (i := 4) rfl (by first | exact Or.inl rfl | exact Or.inr (Or.inl rfl) | exact Or.inr (Or.inr rfl)) rfl rfl) o_nil (o_some (by intro z; cases z) (s_cst pe_int (fun _ _ => .int _)))) (s_revt (s_var (i := 4) rfl (by first | exact Or.inl rfl | exact Or.inr (Or.inl rfl) | exact Or.inr (Or.inr rfl)) rfl rfl))) rfl rfl rfl))
      st_nil)))))))))
/-- law -/
theorem body21 (T : Txt K mg base Z fds cc) (o : OkAt P w K mg base Z fds n) : FnOk P w K mg base (L2N.CX P w) (n + 1) (Z.fa 21) (fds 21) ["script"] (spF Z false (callF D (n + 1) 21) 1) := by
  refine def_ok (D := D) (f := 21) (d := def21) rfl T.F21 sc21 rfl rfl fun bs cdv B outer s H E hl hcd hr => ?_
  have hz : bs.lp = none := hl.mpr rfl
  exact (st_cons (st_for (.inl hz) (passes_of rfl) rfl (i_rng1 rfl T.z_range (s_cst pe_int (fun _ _ => .int _)) rfl) (g_nm (i := 1) sc21.nd rfl (by first | exact Or.inl rfl | exact Or.inr rfl) (by first | exact Or.inl rfl | exact Or.inr rfl))
      (st_cons (st_asg (i := 2) (.inl hz) sc21.nd rfl (by first | exact Or.inl rfl | exact Or.inr rfl) (s_call (f := 11) o.o11 (callF_np (d := def11) rfl) hr rfl T.g11 T.F11.kp T.b11 (L2N.takes_of rfl rfl rfl rfl) (a_cons (s_var (i := 0) rfl (by first | exact Or.inl rfl | exact Or.inr (Or.inl rfl) | exact Or.inr (Or.inr rfl)) rfl rfl) (a_cons (s_var (i := 1) rfl (by first | exact Or.inl rfl | exact Or.inr (Or.inl rfl) | exact Or.inr (Or.inr rfl)) rfl rfl) a_nil rfl) rfl) rfl rfl) rfl (by first | exact Or.inl rfl | exact Or.inr rfl))
      (st_cons (st_asg (i := 3) (.inl hz) sc21.nd rfl (by first | exact Or.inl rfl | exact Or.inr rfl) (s_callb (f := 14) (i := 2) o.o14 (callF_np (d := def14) rfl) hr rfl T.g14 T.F14.kp T.b14 rfl (by first | exact Or.inl rfl | exact Or.inr (Or.inl rfl) | exact Or.inr (Or.inr rfl)) rfl rfl (L2N.takes_of rfl rfl rfl rfl) (a_cons (s_cst pe_int (fun _ _ => .int _)) (a_cons (s_cst pe_int (fun _ _ => .int _)) a_nil rfl) rfl) rfl rfl) rfl (by first | exact Or.inl rfl | exact Or.inr rfl))
      (st_cons (st_asg (i := 4) (.inl hz) sc21.nd rfl (by first | exact Or.inl rfl | exact Or.inr rfl) (s_call (f := 17) o.o17 (callF_np (d := def17) rfl) hr rfl T.g17 T.F17.kp T.b17 (L2N.takes_of rfl rfl rfl rfl) (a_cons (s_var (i := 3) rfl (by first | exact Or.inl rfl | exact Or.inr (Or.inl rfl) | exact Or.inr (Or.inr rfl)) rfl rfl) a_nil rfl) rfl rfl) rfl (by first | exact Or.inl rfl | exact Or.inr rfl))
      (st_cons (st_if (PW.pt (t_or (t_cmp (op := .ne) (room65 hr) (s_call (f := 6) o.o6 (callF_np (d := def6) rfl) hr rfl T.g6 T.F6.kp T.b6 (L2N.takes_of rfl rfl rfl rfl) (a_cons (s_var (i := 3) rfl (by first | exact Or.inl rfl | exact Or.inr (Or.inl rfl) | exact Or.inr (Or.inr rfl)) rfl rfl) a_nil rfl) rfl rfl) (s_var (i := 4) rfl (by first | exact Or.inl rfl | exact Or.inr (Or.inl rfl) | exact Or.inr (Or.inr rfl)) rfl rfl) rfl) (pw_or1 (t_cmp (op := .ne) (room65 hr) (s_callk (f := 16) (d := 27) (is := [4]) o.o16 (callF_np (d := def16) rfl) hr rfl T.g16 T.F16.kp T.b16 (L2N.takes_of rfl rfl rfl rfl) (lamAt_by T.tb21 (hcd.symm.trans T.c21) T.tm21 rfl T.tu21 T.l5 rfl (by kernel_rfl) (by kernel_rfl) (by kernel_rfl) rfl) (cb_cx (fun _ => rfl)) a_nil rfl rfl) (s_tup (a_cons (s_var (i := 3) rfl (by first | exact Or.inl rfl | exact Or.inr (Or.inl rfl) | exact Or.inr (Or.inr rfl)) rfl rfl) (a_cons (s_cst pe_str (fun _ _ => .str _)) a_nil rfl) rfl)) rfl))))
      (st_cons (st_ret (s_cst pe_bl (fun _ _ => .bl _)))
      st_nil)
      st_nil)
      (st_cons (st_for (.inl hz) (passes_of rfl) rfl (i_rng1 rfl T.z_range (s_cst pe_int (fun _ _ => .int _)) rfl) (g_nm (i := 5) sc21.nd rfl (by first | exact Or.inl rfl | exact Or.inr rfl) (by first | exact Or.inl rfl | exact Or.inr rfl))
      (st_cons (st_asg (i := 6) (.inl hz) sc21.nd rfl (by first | exact Or.inl rfl | exact Or.inr rfl) (s_callb (f := 20) (i := 2) o.o20 (callF_np (d := def20) rfl) hr rfl T.g20 T.F20.kp T.b20 rfl (by first | exact Or.inl rfl | exact Or.inr (Or.inl rfl) | exact Or.inr (Or.inr rfl)) rfl rfl (L2N.takes_of rfl rfl rfl rfl) (a_cons (s_var (i := 4) rfl (by first | exact Or.inl rfl | exact Or.inr (Or.inl rfl) | exact Or.inr (Or.inr rfl)) rfl rfl) a_nil rfl) rfl rfl) rfl (by first | exact Or.inl rfl | exact Or.inr rfl))
      (st_cons (st_asg (i := 7) (.inl hz) sc21.nd rfl (by first | exact Or.inl rfl | exact Or.inr rfl) (s_call (f := 19) o.o19 (callF_np (d := def19) rfl) hr rfl T.g19 T.F19.kp T.b19 (L2N.takes_of rfl rfl rfl rfl) (a_cons (s_var (i := 6) rfl (by first | exact Or.inl rfl | exact Or.inr (Or.inl rfl) | exact Or.inr (Or.inr rfl)) rfl rfl) a_nil rfl) rfl rfl) rfl (by first | exact Or.inl rfl | exact Or.inr rfl))
      (st_cons (st_if (t_cmp (op := .ne) (room65 hr) (s_callk (f := 16) (d := 26) (is := [6]) o.o16 (callF_np (d := def16) rfl) hr rfl T.g16 T.F16.kp T.b16 (L2N.takes_of rfl rfl rfl rfl) (lamAt_by T.tb21 (hcd.symm.trans T.c21) T.tm21 rfl T.tu21 T.l4 rfl (by kernel_rfl) (by kernel_rfl) (by kernel_rfl) rfl) (cb_cx (fun _ => rfl)) a_nil rfl rfl) (s_ite (t_cmp (op := .isx) (room65 hr) (s_var (i := 7) rfl (by first | exact Or.inl rfl | exact Or.inr (Or.inl rfl) | exact Or.inr (Or.inr rfl)) rfl rfl) (s_cst pe_non (fun _ _ => .non)) rfl) (s_tup (a_cons (s_cst pe_non (fun _ _ => .non)) (a_cons (s_cst pe_str (fun _ _ => .str _)) a_nil rfl) rfl)) (s_tup (a_cons (s_var (i := 7) rfl (by first | exact Or.inl rfl | exact Or.inr (Or.inl rfl) | exact Or.inr (Or.inr rfl)) rfl rfl) (a_cons (s_cst pe_str (fun _ _ => .str _)) a_nil rfl) rfl))) rfl)
      (st_cons (st_ret (s_cst pe_bl (fun _ _ => .bl _)))
      st_nil)
      st_nil)
      st_nil))) (fun _ => rfl))
      (st_cons (st_for (.inl hz) (passes_of rfl) rfl (i_seq (s_lst (a_cons (s_cst pe_non (fun _ _ => .non)) (a_cons (s_cst pe_int (fun _ _ => .int _)) (a_cons (s_cst pe_str (fun _ _ => .str _)) (a_cons (s_cst pe_str (fun _ _ => .str _)) (a_cons (s_cst pe_str (fun _ _ => .str _)) (a_cons (s_cst pe_str (fun _ _ => .str _)) (a_cons (s_tup (a_cons (s_var (i := 4) rfl (by first | exact Or.inl rfl | exact Or.inr (Or.inl rfl) | exact Or.inr (Or.inr rfl)) rfl rfl) a_nil rfl)) (a_cons (s_bin (op := .add) (s_var (i := 4) rfl (by first | exact Or.inl rfl | exact Or.inr (Or.inl rfl) | exact Or.inr (Or.inr rfl)) rfl rfl) (s_cst pe_str (fun _ _ => .str _))) (a_cons (s_bin (op := .add) (s_cst pe_str (fun _ _ => .str _)) (s_var (i := 4) rfl (by first | exact Or.inl rfl | exact Or.inr (Or.inl rfl) | exact Or.inr (Or.inr rfl)) rfl rfl)) (a_cons (s_bin (op := .add) (s_cst pe_str (fun _ _ => .str _)) (s_var (i := 4) rfl (by first | exact Or.inl rfl | exact Or.inr (Or.inl rfl) | exact Or.inr (Or.inr rfl)) rfl rfl)) a_nil rfl) rfl) rfl) rfl) rfl) rfl) rfl) rfl) rfl) rfl))) (g_nm (i := 8) sc21.nd rfl (by first | exact Or.inl rfl | exact Or.inr rfl) (by first | exact Or.inl rfl | exact Or.inr rfl))
      (st_cons (st_if (t_cmp (op := .ne) (room65 hr) (s_callk (f := 16) (d := 25) (is := [8]) o.o16 (callF_np (d := def16) rfl) hr rfl T.g16 T.F16.kp T.b16 (L2N.takes_of rfl rfl rfl rfl) (lamAt_by T.tb21 (hcd.symm.trans T.c21) T.tm21 rfl T.tu21 T.l3 rfl (by kernel_rfl) (by kernel_rfl) (by kernel_rfl) rfl) (cb_cx (fun _ => rfl)) a_nil rfl rfl) (s_tup (a_cons (s_cst pe_non (fun _ _ => .non)) (a_cons (s_cst pe_str (fun _ _ => .str _)) a_nil rfl) rfl)) rfl)
      (st_cons (st_ret (s_cst pe_bl (fun _ _ => .bl _)))
      st_nil)
      st_nil)
      st_nil) (fun _ => rfl))
      (st_cons (st_if (t_cmp (op := .ne) (room65 hr) (s_callk (f := 16) (d := 24) (is := [3]) o.o16 (callF_np (d := def16) rfl) hr rfl T.g16 T.F16.kp T.b16 (L2N.takes_of rfl rfl rfl rfl) (lamAt_by T.tb21 (hcd.symm.trans T.c21) T.tm21 rfl T.tu21 T.l2 rfl (by kernel_rfl) (by kernel_rfl) (by kernel_rfl) rfl) (cb_cx (fun _ => rfl)) a_nil rfl rfl) (s_tup (a_cons (s_cst pe_non (fun _ _ => .non)) (a_cons (s_cst pe_str (fun _ _ => .str _)) a_nil rfl) rfl)) rfl)
      (st_cons (st_ret (s_cst pe_bl (fun _ _ => .bl _)))
      st_nil)
      st_nil)
      st_nil))))))) (fun _ => rfl))
      (st_cons (st_asg (i := 9) (.inl hz) sc21.nd rfl (by first | exact Or.inl rfl | exact Or.inr rfl) (s_lst (a_cons (s_cst pe_str (fun _ _ => .str _)) (a_cons (s_cst pe_str (fun _ _ => .str _)) (a_cons (s_cst pe_str (fun _ _ => .str _)) (a_cons (s_cst pe_str (fun _ _ => .str _)) (a_cons (s_cst pe_str (fun _ _ => .str _)) a_nil rfl) rfl) rfl) rfl) rfl)) rfl (by first | exact Or.inl rfl | exact Or.inr rfl))
      (st_cons (st_asg (i := 9) (.inl hz) sc21.nd rfl (by first | exact Or.inl rfl | exact Or.inr rfl) (s_bin (op := .add) (s_var (i := 9) rfl (by first | exact Or.inl rfl | exact Or.inr (Or.inl rfl) | exact Or.inr (Or.inr rfl)) rfl rfl) (s_lst (a_cons (s_cst pe_str (fun _ _ => .str _)) (a_cons (s_cst pe_str (fun _ _ => .str _)) (a_cons (s_cst pe_str (fun _ _ => .str _)) (a_cons (s_cst pe_str (fun _ _ => .str _)) (a_cons (s_cst pe_str (fun _ _ => .str _)) a_nil rfl) rfl) rfl) rfl) rfl))) rfl (by first | exact Or.inl rfl | exact Or.inr rfl))
      (st_cons (st_for (.inl hz) (passes_of rfl) rfl (i_seq (s_bin (op := .add) (s_var (i := 9) rfl (by first | exact Or.inl rfl | exact Or.inr (Or.inl rfl) | exact Or.inr (Or.inr rfl)) rfl rfl) (s_lst (a_cons (s_bin (op := .add) (s_cst pe_str (fun _ _ => .str _)) (s_bin (op := .mul) (s_cst pe_str (fun _ _ => .str _)) (s_cst pe_int (fun _ _ => .int _)))) (a_cons (s_cst pe_str (fun _ _ => .str _)) (a_cons (s_cst pe_str (fun _ _ => .str _)) (a_cons (s_cst pe_str (fun _ _ => .str _)) a_nil rfl) rfl) rfl) rfl)))) (g_nm (i := 4) sc21.nd rfl (by first | exact Or.inl rfl | exact Or.inr rfl) (by first | exact Or.inl rfl | exact Or.inr rfl))
      (st_cons (st_if (t_cmp (op := .ne) (room65 hr) (s_callk (f := 16) (d := 23) (is := [4]) o.o16 (callF_np (d := def16) rfl) hr rfl T.g16 T.F16.kp T.b16 (L2N.takes_of rfl rfl rfl rfl) (lamAt_by T.tb21 (hcd.symm.trans T.c21) T.tm21 rfl T.tu21 T.l1 rfl (by kernel_rfl) (by kernel_rfl) (by kernel_rfl) rfl) (cb_cx (fun _ => rfl)) a_nil rfl rfl) (s_tup (a_cons (s_cst pe_non (fun _ _ => .non)) (a_cons (s_cst pe_str (fun _ _ => .str _)) a_nil rfl) rfl)) rfl)
      (st_cons (st_ret (s_cst pe_bl (fun _ _ => .bl _)))
      st_nil)
      st_nil)
      st_nil) (fun _ => rfl))
      (st_cons (st_if (t_cmp (op := .ne) (room65 hr) (s_call (f := 8) o.o8 (callF_np (d := def8) rfl) hr rfl T.g8 T.F8.kp T.b8 (L2N.takes_of rfl rfl rfl rfl) (a_cons (s_cst pe_str (fun _ _ => .str _)) a_nil rfl) rfl rfl) (s_tup (a_cons (s_cst pe_int (fun _ _ => .int _)) (a_cons (s_tup a_nil) a_nil rfl) rfl)) rfl)
      (st_cons (st_ret (s_cst pe_bl (fun _ _ => .bl _)))
      st_nil)
      st_nil)
      (st_cons (st_asg (i := 7) (.inl hz) sc21.nd rfl (by first | exact Or.inl rfl | exact Or.inr rfl) (s_tup (a_cons (s_cst pe_int (fun _ _ => .int _)) (a_cons (s_tup (a_cons (s_tup (a_cons (s_cst pe_str (fun _ _ => .str _)) (a_cons (s_cst pe_int (fun _ _ => .int _)) a_nil rfl) rfl)) (a_cons (s_tup (a_cons (s_cst pe_str (fun _ _ => .str _)) (a_cons (s_cst pe_int (fun _ _ => .int _)) (a_cons (s_neg (s_cst pe_int (fun _ _ => .int _))) a_nil rfl) rfl) rfl)) a_nil rfl) rfl)) a_nil rfl) rfl)) rfl (by first | exact Or.inl rfl | exact Or.inr rfl))
      (st_cons (st_ret (s_cmp (op := .eq) (room65 hr) (s_callk (f := 16) (d := 22) (is := []) o.o16 (callF_np (d := def16) rfl) hr rfl T.g16 T.F16.kp T.b16 (L2N.takes_of rfl rfl rfl rfl) (lamAt_by T.tb21 (hcd.symm.trans T.c21) T.tm21 rfl T.tu21 T.l0 rfl (by kernel_rfl) (by kernel_rfl) (by kernel_rfl) rfl) (cb_cx (fun _ => rfl)) a_nil rfl rfl) (s_tup (a_cons (s_var (i := 7) rfl (by first | exact Or.inl rfl | exact Or.inr (Or.inl rfl) | exact Or.inr (Or.inr rfl)) rfl rfl) (a_cons (s_cst pe_str (fun _ _ => .str _)) a_nil rfl) rfl)) rfl))
      st_nil)))))))
theorem body22 (T : Txt K mg base Z fds cc) (o : OkAt P w K mg base Z fds n) : LamOk P w K mg base (n + 1) Z 22 (callF D (n + 1) 22) := by
  refine lam_ok (D := D) (n := n) (df := def22) (N := []) T.l0 rfl rfl (NdefX.nscope_by (by decide +kernel)) (fun cl pm cv ctv us hl => ?_) fun cl c f A outer s H E hr => ?_
  · match us, hl with | [], _ => rfl
  · exact (s_call (f := 8) o.o8 (callF_np (d := def8) rfl) hr rfl T.g8 T.F8.kp T.b8 (L2N.takes_of rfl rfl rfl rfl) (a_cons (s_cst pe_str (fun _ _ => .str _)) a_nil rfl) rfl rfl)
theorem body23 (T : Txt K mg base Z fds cc) (o : OkAt P w K mg base Z fds n) : LamOk P w K mg base (n + 1) Z 23 (callF D (n + 1) 23) := by
  refine lam_ok (D := D) (n := n) (df := def23) (N := ["text"]) T.l1 rfl rfl (NdefX.nscope_by (by decide +kernel)) (fun cl pm cv ctv us hl => ?_) fun cl c f A outer s H E hr => ?_
  · match us, hl with | [], _ => rfl
  · exact (s_call (f := 8) o.o8 (callF_np (d := def8) rfl) hr rfl T.g8 T.F8.kp T.b8 (L2N.takes_of rfl rfl rfl rfl) (a_cons (s_var (i := 0) rfl (by first | exact Or.inl rfl | exact Or.inr (Or.inl rfl) | exact Or.inr (Or.inr rfl)) rfl rfl) a_nil rfl) rfl rfl)
theorem body24 (T : Txt K mg base Z fds cc) (o : OkAt P w K mg base Z fds n) : LamOk P w K mg base (n + 1) Z 24 (callF D (n + 1) 24) := by
  refine lam_ok (D := D) (n := n) (df := def24) (N := ["script_so"]) T.l2 rfl rfl (NdefX.nscope_by (by decide +kernel)) (fun cl pm cv ctv us hl => ?_) fun cl c f A outer s H E hr => ?_
  · match us, hl with | [], _ => rfl
  · exact (s_call (f := 6) o.o6 (callF_np (d := def6) rfl) hr rfl T.g6 T.F6.kp T.b6 (L2N.takes_of rfl rfl rfl rfl) (a_cons (s_biT (b := .list) (id := "list") rfl rfl rfl rfl T.z_list rfl (d_cons (s_var (i := 0) rfl (by first | exact Or.inl rfl | exact Or.inr (Or.inl rfl) | exact Or.inr (Or.inr rfl)) rfl rfl) d_nil rfl) (by decide) rfl rfl) a_nil rfl) rfl rfl)
theorem body25 (T : Txt K mg base Z fds cc) (o : OkAt P w K mg base Z fds n) : LamOk P w K mg base (n + 1) Z 25 (callF D (n + 1) 25) := by
  refine lam_ok (D := D) (n := n) (df := def25) (N := ["odd"]) T.l3 rfl rfl (NdefX.nscope_by (by decide +kernel)) (fun cl pm cv ctv us hl => ?_) fun cl c f A outer s H E hr => ?_
  · match us, hl with | [], _ => rfl
  · exact (s_call (f := 8) o.o8 (callF_np (d := def8) rfl) hr rfl T.g8 T.F8.kp T.b8 (L2N.takes_of rfl rfl rfl rfl) (a_cons (s_var (i := 0) rfl (by first | exact Or.inl rfl | exact Or.inr (Or.inl rfl) | exact Or.inr (Or.inr rfl)) rfl rfl) a_nil rfl) rfl rfl)
theorem body26 (T : Txt K mg base Z fds cc) (o : OkAt P w K mg base Z fds n) : LamOk P w K mg base (n + 1) Z 26 (callF D (n + 1) 26) := by
  refine lam_ok (D := D) (n := n) (df := def26) (N := ["bent"]) T.l4 rfl rfl (NdefX.nscope_by (by decide +kernel)) (fun cl pm cv ctv us hl => ?_) fun cl c f A outer s H E hr => ?_
  · match us, hl with | [], _ => rfl
  · exact (s_call (f := 8) o.o8 (callF_np (d := def8) rfl) hr rfl T.g8 T.F8.kp T.b8 (L2N.takes_of rfl rfl rfl rfl) (a_cons (s_var (i := 0) rfl (by first | exact Or.inl rfl | exact Or.inr (Or.inl rfl) | exact Or.inr (Or.inr rfl)) rfl rfl) a_nil rfl) rfl rfl)
theorem body27 (T : Txt K mg base Z fds cc) (o : OkAt P w K mg base Z fds n) : LamOk P w K mg base (n + 1) Z 27 (callF D (n + 1) 27) := by
  refine lam_ok (D := D) (n := n) (df := def27) (N := ["text"]) T.l5 rfl rfl (NdefX.nscope_by (by decide +kernel)) (fun cl pm cv ctv us hl => ?_) fun cl c f A outer s H E hr => ?_
  · match us, hl with | [], _ => rfl
  · exact (s_call (f := 8) o.o8 (callF_np (d := def8) rfl) hr rfl T.g8 T.F8.kp T.b8 (L2N.takes_of rfl rfl rfl rfl) (a_cons (s_var (i := 0) rfl (by first | exact Or.inl rfl | exact Or.inr (Or.inl rfl) | exact Or.inr (Or.inr rfl)) rfl rfl) a_nil rfl) rfl rfl)
theorem all_ok (T : Txt K mg base Z fds cc) : ∀ n, OkAt P w K mg base Z fds n
  | 0 => ⟨fn_zero rfl, fn_zero rfl, fn_zero rfl, fn_zero rfl, fn_zero rfl, fn_zero rfl, fn_zero rfl, fn_zero rfl, fn_zero rfl, fn_zero rfl, fn_zero rfl, fn_zero rfl, fn_zero rfl, fn_zero rfl, fn_zero rfl, fnE_zero, fn_zero rfl, fn_zero rfl, fn_zero rfl, fn_zero rfl, fn_zero rfl, fn_zero rfl, lam_zero, lam_zero, lam_zero, lam_zero, lam_zero, lam_zero⟩
  | n + 1 => have o := all_ok T n; ⟨body0 T o, body1 T o, body2 T o, body3 T o, body4 T o, body5 T o, body6 T o, body7 T o, body8 T o, body9 T o, body10 T o, body11 T o, body12 T o, body13 T o, body14 T o, body15 T o, body16 T o, body17 T o, body18 T o, body19 T o, body20 T o, body21 T o, body22 T o, body23 T o, body24 T o, body25 T o, body26 T o, body27 T o⟩
end
/-! ### what the head gives -/
theorem all_mk {l : PySem.W.OpenLaw} {w : World} {K : PySem.W.Frag} {h : Heap} {mg : Str → Option Value} {fa : Addr} (X : K.In h) (G : h.Ns mainGlobals mg) (hfa : mg "law" = some (.ref fa))
    {f0 : Addr} {oc0 kV0 dc0 pm0 ct0 : Value} {od0 an0 : Option Addr} {sl0 : Array (Option Value)} {cd0 : Value}
    {f1 : Addr} {oc1 kV1 dc1 pm1 ct1 : Value} {od1 an1 : Option Addr} {sl1 : Array (Option Value)} {cd1 : Value}
    {f2 : Addr} {oc2 kV2 dc2 pm2 ct2 : Value} {od2 an2 : Option Addr} {sl2 : Array (Option Value)} {cd2 : Value}
    {f3 : Addr} {oc3 kV3 dc3 pm3 ct3 : Value} {od3 an3 : Option Addr} {sl3 : Array (Option Value)} {cd3 : Value}
    {f4 : Addr} {oc4 kV4 dc4 pm4 ct4 : Value} {od4 an4 : Option Addr} {sl4 : Array (Option Value)} {cd4 : Value}
    {f5 : Addr} {oc5 kV5 dc5 pm5 ct5 : Value} {od5 an5 : Option Addr} {sl5 : Array (Option Value)} {cd5 : Value}
    {f6 : Addr} {oc6 kV6 dc6 pm6 ct6 : Value} {od6 an6 : Option Addr} {sl6 : Array (Option Value)} {cd6 : Value}
    {f7 : Addr} {oc7 kV7 dc7 pm7 ct7 : Value} {od7 an7 : Option Addr} {sl7 : Array (Option Value)} {cd7 : Value}
    {f8 : Addr} {oc8 kV8 dc8 pm8 ct8 : Value} {od8 an8 : Option Addr} {sl8 : Array (Option Value)} {cd8 : Value}
    {f9 : Addr} {oc9 kV9 dc9 pm9 ct9 : Value} {od9 an9 : Option Addr} {sl9 : Array (Option Value)} {cd9 : Value}
    {f10 : Addr} {oc10 kV10 dc10 pm10 ct10 : Value} {od10 an10 : Option Addr} {sl10 : Array (Option Value)} {cd10 : Value}
    {f11 : Addr} {oc11 kV11 dc11 pm11 ct11 : Value} {od11 an11 : Option Addr} {sl11 : Array (Option Value)} {cd11 : Value}
    {f12 : Addr} {oc12 kV12 dc12 pm12 ct12 : Value} {od12 an12 : Option Addr} {sl12 : Array (Option Value)} {cd12 : Value}
    {f13 : Addr} {oc13 kV13 dc13 pm13 ct13 : Value} {od13 an13 : Option Addr} {sl13 : Array (Option Value)} {cd13 : Value}
    {f14 : Addr} {oc14 kV14 dc14 pm14 ct14 : Value} {od14 an14 : Option Addr} {sl14 : Array (Option Value)} {cd14 : Value}
    {f15 : Addr} {oc15 kV15 dc15 pm15 ct15 : Value} {od15 an15 : Option Addr} {sl15 : Array (Option Value)} {cd15 : Value}
    {f16 : Addr} {oc16 kV16 dc16 pm16 ct16 : Value} {od16 an16 : Option Addr} {sl16 : Array (Option Value)} {cd16 : Value}
    {f17 : Addr} {oc17 kV17 dc17 pm17 ct17 : Value} {od17 an17 : Option Addr} {sl17 : Array (Option Value)} {cd17 : Value}
    {f18 : Addr} {oc18 kV18 dc18 pm18 ct18 : Value} {od18 an18 : Option Addr} {sl18 : Array (Option Value)} {cd18 : Value}
    {f19 : Addr} {oc19 kV19 dc19 pm19 ct19 : Value} {od19 an19 : Option Addr} {sl19 : Array (Option Value)} {cd19 : Value}
    {f20 : Addr} {oc20 kV20 dc20 pm20 ct20 : Value} {od20 an20 : Option Addr} {sl20 : Array (Option Value)} {cd20 : Value}
    {f21 : Addr} {oc21 kV21 dc21 pm21 ct21 : Value} {od21 an21 : Option Addr} {sl21 : Array (Option Value)} {cd21 P21 : Addr}
    {C0 : Addr}
    {C1 : Addr}
    {C2 : Addr}
    {C3 : Addr}
    {C4 : Addr}
    {C5 : Addr}
    {C6 : Addr}
    {C7 : Addr}
    {C8 : Addr}
    {C9 : Addr}
    {C10 : Addr}
    (a0 : PySem.W.nsIn K mainGlobals "is_whole" = some (some (.ref f0)))
    (l0 : K.lookup f0 = some ⟨oc0, od0, .func (PySem.W.fnOf "is_whole" "is_whole" (defArgs (top 13)) (defBody (top 13)) (defScope (top 13)) .none kV0 dc0 pm0 an0 cd0 ct0), sl0⟩)
    (c0 : PySem.W.codeIn K cd0 "is_whole" = true)
    (k0 : PySem.W.keepIn K (.ref f0) = true)
    (a1 : PySem.W.nsIn K mainGlobals "is_row" = some (some (.ref f1)))
    (l1 : K.lookup f1 = some ⟨oc1, od1, .func (PySem.W.fnOf "is_row" "is_row" (defArgs (top 14)) (defBody (top 14)) (defScope (top 14)) .none kV1 dc1 pm1 an1 cd1 ct1), sl1⟩)
    (c1 : PySem.W.codeIn K cd1 "is_row" = true)
    (k1 : PySem.W.keepIn K (.ref f1) = true)
    (a2 : PySem.W.nsIn K mainGlobals "is_deed" = some (some (.ref f2)))
    (l2 : K.lookup f2 = some ⟨oc2, od2, .func (PySem.W.fnOf "is_deed" "is_deed" (defArgs (top 15)) (defBody (top 15)) (defScope (top 15)) .none kV2 dc2 pm2 an2 cd2 ct2), sl2⟩)
    (c2 : PySem.W.codeIn K cd2 "is_deed" = true)
    (k2 : PySem.W.keepIn K (.ref f2) = true)
    (a3 : PySem.W.nsIn K mainGlobals "is_script" = some (some (.ref f3)))
    (l3 : K.lookup f3 = some ⟨oc3, od3, .func (PySem.W.fnOf "is_script" "is_script" (defArgs (top 16)) (defBody (top 16)) (defScope (top 16)) .none kV3 dc3 pm3 an3 cd3 ct3), sl3⟩)
    (c3 : PySem.W.codeIn K cd3 "is_script" = true)
    (k3 : PySem.W.keepIn K (.ref f3) = true)
    (a4 : PySem.W.nsIn K mainGlobals "need_script" = some (some (.ref f4)))
    (l4 : K.lookup f4 = some ⟨oc4, od4, .func (PySem.W.fnOf "need_script" "need_script" (defArgs (top 17)) (defBody (top 17)) (defScope (top 17)) .none kV4 dc4 pm4 an4 cd4 ct4), sl4⟩)
    (c4 : PySem.W.codeIn K cd4 "need_script" = true)
    (k4 : PySem.W.keepIn K (.ref f4) = true)
    (a5 : PySem.W.nsIn K mainGlobals "as_text" = some (some (.ref f5)))
    (l5 : K.lookup f5 = some ⟨oc5, od5, .func (PySem.W.fnOf "as_text" "as_text" (defArgs (top 19)) (defBody (top 19)) (defScope (top 19)) .none kV5 dc5 pm5 an5 cd5 ct5), sl5⟩)
    (c5 : PySem.W.codeIn K cd5 "as_text" = true)
    (k5 : PySem.W.keepIn K (.ref f5) = true)
    (a6 : PySem.W.nsIn K mainGlobals "script_text" = some (some (.ref f6)))
    (l6 : K.lookup f6 = some ⟨oc6, od6, .func (PySem.W.fnOf "script_text" "script_text" (defArgs (top 20)) (defBody (top 20)) (defScope (top 20)) .none kV6 dc6 pm6 an6 cd6 ct6), sl6⟩)
    (c6 : PySem.W.codeIn K cd6 "script_text" = true)
    (k6 : PySem.W.keepIn K (.ref f6) = true)
    (a7 : PySem.W.nsIn K mainGlobals "item_in" = some (some (.ref f7)))
    (l7 : K.lookup f7 = some ⟨oc7, od7, .func (PySem.W.fnOf "item_in" "item_in" (defArgs (top 21)) (defBody (top 21)) (defScope (top 21)) .none kV7 dc7 pm7 an7 cd7 ct7), sl7⟩)
    (c7 : PySem.W.codeIn K cd7 "item_in" = true)
    (k7 : PySem.W.keepIn K (.ref f7) = true)
    (a8 : PySem.W.nsIn K mainGlobals "read_script" = some (some (.ref f8)))
    (l8 : K.lookup f8 = some ⟨oc8, od8, .func (PySem.W.fnOf "read_script" "read_script" (defArgs (top 22)) (defBody (top 22)) (defScope (top 22)) .none kV8 dc8 pm8 an8 cd8 ct8), sl8⟩)
    (c8 : PySem.W.codeIn K cd8 "read_script" = true)
    (k8 : PySem.W.keepIn K (.ref f8) = true)
    (a9 : PySem.W.nsIn K mainGlobals "_law_cell" = some (some (.ref f9)))
    (l9 : K.lookup f9 = some ⟨oc9, od9, .func (PySem.W.fnOf "_law_cell" "_law_cell" (defArgs (top 24)) (defBody (top 24)) (defScope (top 24)) .none kV9 dc9 pm9 an9 cd9 ct9), sl9⟩)
    (c9 : PySem.W.codeIn K cd9 "_law_cell" = true)
    (k9 : PySem.W.keepIn K (.ref f9) = true)
    (a10 : PySem.W.nsIn K mainGlobals "_law_draws" = some (some (.ref f10)))
    (l10 : K.lookup f10 = some ⟨oc10, od10, .func (PySem.W.fnOf "_law_draws" "_law_draws" (defArgs (top 25)) (defBody (top 25)) (defScope (top 25)) .none kV10 dc10 pm10 an10 cd10 ct10), sl10⟩)
    (c10 : PySem.W.codeIn K cd10 "_law_draws" = true)
    (k10 : PySem.W.keepIn K (.ref f10) = true)
    (a11 : PySem.W.nsIn K mainGlobals "_law_bag" = some (some (.ref f11)))
    (l11 : K.lookup f11 = some ⟨oc11, od11, .func (PySem.W.fnOf "_law_bag" "_law_bag" (defArgs (top 26)) (defBody (top 26)) (defScope (top 26)) .none kV11 dc11 pm11 an11 cd11 ct11), sl11⟩)
    (c11 : PySem.W.codeIn K cd11 "_law_bag" = true)
    (k11 : PySem.W.keepIn K (.ref f11) = true)
    (a12 : PySem.W.nsIn K mainGlobals "_law_take" = some (some (.ref f12)))
    (l12 : K.lookup f12 = some ⟨oc12, od12, .func (PySem.W.fnOf "_law_take" "_law_take" (defArgs (top 27)) (defBody (top 27)) (defScope (top 27)) .none kV12 dc12 pm12 an12 cd12 ct12), sl12⟩)
    (c12 : PySem.W.codeIn K cd12 "_law_take" = true)
    (k12 : PySem.W.keepIn K (.ref f12) = true)
    (a13 : PySem.W.nsIn K mainGlobals "_law_choice" = some (some (.ref f13)))
    (l13 : K.lookup f13 = some ⟨oc13, od13, .func (PySem.W.fnOf "_law_choice" "_law_choice" (defArgs (top 28)) (defBody (top 28)) (defScope (top 28)) .none kV13 dc13 pm13 an13 cd13 ct13), sl13⟩)
    (c13 : PySem.W.codeIn K cd13 "_law_choice" = true)
    (k13 : PySem.W.keepIn K (.ref f13) = true)
    (a14 : PySem.W.nsIn K mainGlobals "_law_script" = some (some (.ref f14)))
    (l14 : K.lookup f14 = some ⟨oc14, od14, .func (PySem.W.fnOf "_law_script" "_law_script" (defArgs (top 29)) (defBody (top 29)) (defScope (top 29)) .none kV14 dc14 pm14 an14 cd14 ct14), sl14⟩)
    (c14 : PySem.W.codeIn K cd14 "_law_script" = true)
    (k14 : PySem.W.keepIn K (.ref f14) = true)
    (a15 : PySem.W.nsIn K mainGlobals "_law_named_error" = some (some (.ref f15)))
    (l15 : K.lookup f15 = some ⟨oc15, od15, .func (PySem.W.fnOf "_law_named_error" "_law_named_error" (defArgs (top 30)) (defBody (top 30)) (defScope (top 30)) .none kV15 dc15 pm15 an15 cd15 ct15), sl15⟩)
    (c15 : PySem.W.codeIn K cd15 "_law_named_error" = true)
    (k15 : PySem.W.keepIn K (.ref f15) = true)
    (a16 : PySem.W.nsIn K mainGlobals "_law_told" = some (some (.ref f16)))
    (l16 : K.lookup f16 = some ⟨oc16, od16, .func (PySem.W.fnOf "_law_told" "_law_told" (defArgs (top 31)) (defBody (top 31)) (defScope (top 31)) .none kV16 dc16 pm16 an16 cd16 ct16), sl16⟩)
    (c16 : PySem.W.codeIn K cd16 "_law_told" = true)
    (k16 : PySem.W.keepIn K (.ref f16) = true)
    (a17 : PySem.W.nsIn K mainGlobals "_law_text" = some (some (.ref f17)))
    (l17 : K.lookup f17 = some ⟨oc17, od17, .func (PySem.W.fnOf "_law_text" "_law_text" (defArgs (top 32)) (defBody (top 32)) (defScope (top 32)) .none kV17 dc17 pm17 an17 cd17 ct17), sl17⟩)
    (c17 : PySem.W.codeIn K cd17 "_law_text" = true)
    (k17 : PySem.W.keepIn K (.ref f17) = true)
    (a18 : PySem.W.nsIn K mainGlobals "_law_integer" = some (some (.ref f18)))
    (l18 : K.lookup f18 = some ⟨oc18, od18, .func (PySem.W.fnOf "_law_integer" "_law_integer" (defArgs (top 33)) (defBody (top 33)) (defScope (top 33)) .none kV18 dc18 pm18 an18 cd18 ct18), sl18⟩)
    (c18 : PySem.W.codeIn K cd18 "_law_integer" = true)
    (k18 : PySem.W.keepIn K (.ref f18) = true)
    (a19 : PySem.W.nsIn K mainGlobals "_law_read" = some (some (.ref f19)))
    (l19 : K.lookup f19 = some ⟨oc19, od19, .func (PySem.W.fnOf "_law_read" "_law_read" (defArgs (top 34)) (defBody (top 34)) (defScope (top 34)) .none kV19 dc19 pm19 an19 cd19 ct19), sl19⟩)
    (c19 : PySem.W.codeIn K cd19 "_law_read" = true)
    (k19 : PySem.W.keepIn K (.ref f19) = true)
    (a20 : PySem.W.nsIn K mainGlobals "_law_bent" = some (some (.ref f20)))
    (l20 : K.lookup f20 = some ⟨oc20, od20, .func (PySem.W.fnOf "_law_bent" "_law_bent" (defArgs (top 35)) (defBody (top 35)) (defScope (top 35)) .none kV20 dc20 pm20 an20 cd20 ct20), sl20⟩)
    (c20 : PySem.W.codeIn K cd20 "_law_bent" = true)
    (k20 : PySem.W.keepIn K (.ref f20) = true)
    (a21 : PySem.W.nsIn K mainGlobals "law" = some (some (.ref f21)))
    (l21 : K.lookup f21 = some ⟨oc21, od21, .func (PySem.W.fnOf "law" "law" (defArgs (top 36)) (defBody (top 36)) (defScope (top 36)) .none kV21 dc21 pm21 an21 (.ref cd21) ct21), sl21⟩)
    (c21 : PySem.W.codeIn K (.ref cd21) "law" = true)
    (k21 : PySem.W.keepIn K (.ref f21) = true)
    (z_all : PySem.W.nsIn K mainGlobals "all" = some none)
    (z_bool : PySem.W.nsIn K mainGlobals "bool" = some none)
    (z_int : PySem.W.nsIn K mainGlobals "int" = some none)
    (z_isinstance : PySem.W.nsIn K mainGlobals "isinstance" = some none)
    (z_len : PySem.W.nsIn K mainGlobals "len" = some none)
    (z_list : PySem.W.nsIn K mainGlobals "list" = some none)
    (z_range : PySem.W.nsIn K mainGlobals "range" = some none)
    (z_str : PySem.W.nsIn K mainGlobals "str" = some none)
    (z_tuple : PySem.W.nsIn K mainGlobals "tuple" = some none)
    (z_zip : PySem.W.nsIn K mainGlobals "zip" = some none)
    (aC0 : PySem.W.nsIn K mainGlobals "InvalidScript" = some (some (.ref C0)))
    (ic0 : PySem.W.isClsIn K C0 = true)
    (tc0 : PySem.W.typeIn K (.ref C0) = some (.type "type"))
    (aC1 : PySem.W.nsIn K mainGlobals "InvalidText" = some (some (.ref C1)))
    (ic1 : PySem.W.isClsIn K C1 = true)
    (tc1 : PySem.W.typeIn K (.ref C1) = some (.type "type"))
    (aC2 : PySem.W.nsIn K mainGlobals "WheelError" = some (some (.ref C2)))
    (ic2 : PySem.W.isClsIn K C2 = true)
    (tc2 : PySem.W.typeIn K (.ref C2) = some (.type "type"))
    (aC3 : PySem.W.nsIn K mainGlobals "InvalidFigures" = some (some (.ref C3)))
    (ic3 : PySem.W.isClsIn K C3 = true)
    (tc3 : PySem.W.typeIn K (.ref C3) = some (.type "type"))
    (aC4 : PySem.W.nsIn K mainGlobals "InvalidStart" = some (some (.ref C4)))
    (ic4 : PySem.W.isClsIn K C4 = true)
    (tc4 : PySem.W.typeIn K (.ref C4) = some (.type "type"))
    (aC5 : PySem.W.nsIn K mainGlobals "InvalidWord" = some (some (.ref C5)))
    (ic5 : PySem.W.isClsIn K C5 = true)
    (tc5 : PySem.W.typeIn K (.ref C5) = some (.type "type"))
    (aC6 : PySem.W.nsIn K mainGlobals "InvalidDeed" = some (some (.ref C6)))
    (ic6 : PySem.W.isClsIn K C6 = true)
    (tc6 : PySem.W.typeIn K (.ref C6) = some (.type "type"))
    (aC7 : PySem.W.nsIn K mainGlobals "InvalidWheel" = some (some (.ref C7)))
    (ic7 : PySem.W.isClsIn K C7 = true)
    (tc7 : PySem.W.typeIn K (.ref C7) = some (.type "type"))
    (aC8 : PySem.W.nsIn K mainGlobals "InvalidFacts" = some (some (.ref C8)))
    (ic8 : PySem.W.isClsIn K C8 = true)
    (tc8 : PySem.W.typeIn K (.ref C8) = some (.type "type"))
    (aC9 : PySem.W.nsIn K mainGlobals "Unlike" = some (some (.ref C9)))
    (ic9 : PySem.W.isClsIn K C9 = true)
    (tc9 : PySem.W.typeIn K (.ref C9) = some (.type "type"))
    (aC10 : PySem.W.nsIn K mainGlobals "NothingToUndo" = some (some (.ref C10)))
    (ic10 : PySem.W.isClsIn K C10 = true)
    (tc10 : PySem.W.typeIn K (.ref C10) = some (.type "type"))
    (sW : PySem.W.subIn K (.ref C2) (.type "BaseException") = some true)
    (ec0 : PySem.W.excIn K C0 [.type "ValueError", .type "Exception", .type "BaseException", .type "object"] "ValueError.__new__" = true)
    (kc0 : PySem.W.keepIn K (.ref C0) = true)
    (sc0b : PySem.W.subIn K (.ref C0) (.type "BaseException") = some true)
    (sc0v : PySem.W.subIn K (.ref C0) (.type "ValueError") = some true)
    (sc0w : PySem.W.subIn K (.ref C0) (.ref C2) = some true)
    (ex0 : ExcC K C0)
    (s0_0 : PySem.W.subIn K (.ref C0) (.ref C0) = some true)
    (s0_1 : PySem.W.subIn K (.ref C0) (.ref C1) = some false)
    (n0_1 : C0 ≠ C1)
    (s0_3 : PySem.W.subIn K (.ref C0) (.ref C3) = some false)
    (n0_3 : C0 ≠ C3)
    (s0_4 : PySem.W.subIn K (.ref C0) (.ref C4) = some false)
    (n0_4 : C0 ≠ C4)
    (s0_5 : PySem.W.subIn K (.ref C0) (.ref C5) = some false)
    (n0_5 : C0 ≠ C5)
    (s0_6 : PySem.W.subIn K (.ref C0) (.ref C6) = some false)
    (n0_6 : C0 ≠ C6)
    (s0_7 : PySem.W.subIn K (.ref C0) (.ref C7) = some false)
    (n0_7 : C0 ≠ C7)
    (s0_8 : PySem.W.subIn K (.ref C0) (.ref C8) = some false)
    (n0_8 : C0 ≠ C8)
    (s0_9 : PySem.W.subIn K (.ref C0) (.ref C9) = some false)
    (n0_9 : C0 ≠ C9)
    (s0_10 : PySem.W.subIn K (.ref C0) (.ref C10) = some false)
    (n0_10 : C0 ≠ C10)
    (ec1 : PySem.W.excIn K C1 [.type "ValueError", .type "Exception", .type "BaseException", .type "object"] "ValueError.__new__" = true)
    (kc1 : PySem.W.keepIn K (.ref C1) = true)
    (sc1b : PySem.W.subIn K (.ref C1) (.type "BaseException") = some true)
    (sc1v : PySem.W.subIn K (.ref C1) (.type "ValueError") = some true)
    (sc1w : PySem.W.subIn K (.ref C1) (.ref C2) = some true)
    (ex1 : ExcC K C1)
    (s1_0 : PySem.W.subIn K (.ref C1) (.ref C0) = some false)
    (n1_0 : C1 ≠ C0)
    (s1_1 : PySem.W.subIn K (.ref C1) (.ref C1) = some true)
    (s1_3 : PySem.W.subIn K (.ref C1) (.ref C3) = some false)
    (n1_3 : C1 ≠ C3)
    (s1_4 : PySem.W.subIn K (.ref C1) (.ref C4) = some false)
    (n1_4 : C1 ≠ C4)
    (s1_5 : PySem.W.subIn K (.ref C1) (.ref C5) = some false)
    (n1_5 : C1 ≠ C5)
    (s1_6 : PySem.W.subIn K (.ref C1) (.ref C6) = some false)
    (n1_6 : C1 ≠ C6)
    (s1_7 : PySem.W.subIn K (.ref C1) (.ref C7) = some false)
    (n1_7 : C1 ≠ C7)
    (s1_8 : PySem.W.subIn K (.ref C1) (.ref C8) = some false)
    (n1_8 : C1 ≠ C8)
    (s1_9 : PySem.W.subIn K (.ref C1) (.ref C9) = some false)
    (n1_9 : C1 ≠ C9)
    (s1_10 : PySem.W.subIn K (.ref C1) (.ref C10) = some false)
    (n1_10 : C1 ≠ C10)
    (h21 : PySem.W.codeHdIn K cd21 P21 = true)
    (lp21 : K.lookup P21 = none)
    (tt21 : h.get? P21 = some { cls := .none, data := .fields #[] })
    (nl : K.all (fun p => p.2.cls != .type "list") = true)
    (pure_law : ∀ ns : List Int, ns.length ≤ 63 → ∃ n out obs, n ≤ 40 ∧ callF D 40 21 [.lst (ns.map .int)] [] = .ok (.bl true) false out obs) :
    LamX.LawAtS l w K (L2N.CX l.prog w) 40 63 "script" mg fa h := by
  have e := hfa.symm.trans (PySem.W.mg_of X G a21)
  cases e
  have F0 := fun_mk (st := top 13) l0 c0 k0
  have b0 := F0.binds (ps := ["value", "low", "high"]) fun _ _ _ _ _ _ us hl => match us, hl with | [_, _, _], _ => rfl
  have F1 := fun_mk (st := top 14) l1 c1 k1
  have b1 := F1.binds (ps := ["value", "low", "high"]) fun _ _ _ _ _ _ us hl => match us, hl with | [_, _, _], _ => rfl
  have F2 := fun_mk (st := top 15) l2 c2 k2
  have b2 := F2.binds (ps := ["wheels", "value"]) fun _ _ _ _ _ _ us hl => match us, hl with | [_, _], _ => rfl
  have F3 := fun_mk (st := top 16) l3 c3 k3
  have b3 := F3.binds (ps := ["value"]) fun _ _ _ _ _ _ us hl => match us, hl with | [_], _ => rfl
  have F4 := fun_mk (st := top 17) l4 c4 k4
  have b4 := F4.binds (ps := ["script"]) fun _ _ _ _ _ _ us hl => match us, hl with | [_], _ => rfl
  have F5 := fun_mk (st := top 19) l5 c5 k5
  have b5 := F5.binds (ps := ["script"]) fun _ _ _ _ _ _ us hl => match us, hl with | [_], _ => rfl
  have F6 := fun_mk (st := top 20) l6 c6 k6
  have b6 := F6.binds (ps := ["script"]) fun _ _ _ _ _ _ us hl => match us, hl with | [_], _ => rfl
  have F7 := fun_mk (st := top 21) l7 c7 k7
  have b7 := F7.binds (ps := ["word"]) fun _ _ _ _ _ _ us hl => match us, hl with | [_], _ => rfl
  have F8 := fun_mk (st := top 22) l8 c8 k8
  have b8 := F8.binds (ps := ["value"]) fun _ _ _ _ _ _ us hl => match us, hl with | [_], _ => rfl
  have F9 := fun_mk (st := top 24) l9 c9 k9
  have b9 := F9.binds (ps := ["script", "k"]) fun _ _ _ _ _ _ us hl => match us, hl with | [_, _], _ => rfl
  have F10 := fun_mk (st := top 25) l10 c10 k10
  have b10 := F10.binds (ps := ["script", "k", "many", "base"]) fun _ _ _ _ _ _ us hl => match us, hl with | [_, _, _, _], _ => rfl
  have F11 := fun_mk (st := top 26) l11 c11 k11
  have b11 := F11.binds (ps := ["script", "k"]) fun _ _ _ _ _ _ us hl => match us, hl with | [_, _], _ => rfl
  have F12 := fun_mk (st := top 27) l12 c12 k12
  have b12 := F12.binds (ps := ["bag", "many"]) fun _ _ _ _ _ _ us hl => match us, hl with | [_, _], _ => rfl
  have F13 := fun_mk (st := top 28) l13 c13 k13
  have b13 := F13.binds (ps := ["bag", "some"]) fun _ _ _ _ _ _ us hl => match us, hl with | [_, _], _ => rfl
  have F14 := fun_mk (st := top 29) l14 c14 k14
  have b14 := F14.binds (ps := ["bag", "most", "wheels"]) fun _ _ _ _ _ _ us hl => match us, hl with | [_, _, _], _ => rfl
  have F15 := fun_mk (st := top 30) l15 c15 k15
  have b15 := F15.binds (ps := ["e"]) fun _ _ _ _ _ _ us hl => match us, hl with | [_], _ => rfl
  have F16 := fun_mk (st := top 31) l16 c16 k16
  have b16 := F16.binds (ps := ["call"]) fun _ _ _ _ _ _ us hl => match us, hl with | [_], _ => rfl
  have F17 := fun_mk (st := top 32) l17 c17 k17
  have b17 := F17.binds (ps := ["script_so"]) fun _ _ _ _ _ _ us hl => match us, hl with | [_], _ => rfl
  have F18 := fun_mk (st := top 33) l18 c18 k18
  have b18 := F18.binds (ps := ["word"]) fun _ _ _ _ _ _ us hl => match us, hl with | [_], _ => rfl
  have F19 := fun_mk (st := top 34) l19 c19 k19
  have b19 := F19.binds (ps := ["text"]) fun _ _ _ _ _ _ us hl => match us, hl with | [_], _ => rfl
  have F20 := fun_mk (st := top 35) l20 c20 k20
  have b20 := F20.binds (ps := ["bag", "text"]) fun _ _ _ _ _ _ us hl => match us, hl with | [_, _], _ => rfl
  have F21 := fun_mk (st := top 36) l21 c21 k21
  have b21 := F21.binds (ps := ["script"]) fun _ _ _ _ _ _ us hl => match us, hl with | [_], _ => rfl
  let Z : Nm := ⟨fun i => [f0, f1, f2, f3, f4, f5, f6, f7, f8, f9, f10, f11, f12, f13, f14, f15, f16, f17, f18, f19, f20, fa].getD i 0, fun i => [C0, C1, C2, C3, C4, C5, C6, C7, C8, C9, C10].getD i 0, fun d => [lamD0, lamD1, lamD2, lamD3, lamD4, lamD5].getD (d - 22) lamD0, [(P21, ((fun _ _ => ("law.<locals>.<lambda>" : Str)) : Nat → Nat → Str))], none⟩
  let fds : Nat → FuncData := fun i => [PySem.W.fnOf "is_whole" "is_whole" (defArgs (top 13)) (defBody (top 13)) (defScope (top 13)) .none kV0 dc0 pm0 an0 cd0 ct0, PySem.W.fnOf "is_row" "is_row" (defArgs (top 14)) (defBody (top 14)) (defScope (top 14)) .none kV1 dc1 pm1 an1 cd1 ct1, PySem.W.fnOf "is_deed" "is_deed" (defArgs (top 15)) (defBody (top 15)) (defScope (top 15)) .none kV2 dc2 pm2 an2 cd2 ct2, PySem.W.fnOf "is_script" "is_script" (defArgs (top 16)) (defBody (top 16)) (defScope (top 16)) .none kV3 dc3 pm3 an3 cd3 ct3, PySem.W.fnOf "need_script" "need_script" (defArgs (top 17)) (defBody (top 17)) (defScope (top 17)) .none kV4 dc4 pm4 an4 cd4 ct4, PySem.W.fnOf "as_text" "as_text" (defArgs (top 19)) (defBody (top 19)) (defScope (top 19)) .none kV5 dc5 pm5 an5 cd5 ct5, PySem.W.fnOf "script_text" "script_text" (defArgs (top 20)) (defBody (top 20)) (defScope (top 20)) .none kV6 dc6 pm6 an6 cd6 ct6, PySem.W.fnOf "item_in" "item_in" (defArgs (top 21)) (defBody (top 21)) (defScope (top 21)) .none kV7 dc7 pm7 an7 cd7 ct7, PySem.W.fnOf "read_script" "read_script" (defArgs (top 22)) (defBody (top 22)) (defScope (top 22)) .none kV8 dc8 pm8 an8 cd8 ct8, PySem.W.fnOf "_law_cell" "_law_cell" (defArgs (top 24)) (defBody (top 24)) (defScope (top 24)) .none kV9 dc9 pm9 an9 cd9 ct9, PySem.W.fnOf "_law_draws" "_law_draws" (defArgs (top 25)) (defBody (top 25)) (defScope (top 25)) .none kV10 dc10 pm10 an10 cd10 ct10, PySem.W.fnOf "_law_bag" "_law_bag" (defArgs (top 26)) (defBody (top 26)) (defScope (top 26)) .none kV11 dc11 pm11 an11 cd11 ct11, PySem.W.fnOf "_law_take" "_law_take" (defArgs (top 27)) (defBody (top 27)) (defScope (top 27)) .none kV12 dc12 pm12 an12 cd12 ct12, PySem.W.fnOf "_law_choice" "_law_choice" (defArgs (top 28)) (defBody (top 28)) (defScope (top 28)) .none kV13 dc13 pm13 an13 cd13 ct13, PySem.W.fnOf "_law_script" "_law_script" (defArgs (top 29)) (defBody (top 29)) (defScope (top 29)) .none kV14 dc14 pm14 an14 cd14 ct14, PySem.W.fnOf "_law_named_error" "_law_named_error" (defArgs (top 30)) (defBody (top 30)) (defScope (top 30)) .none kV15 dc15 pm15 an15 cd15 ct15, PySem.W.fnOf "_law_told" "_law_told" (defArgs (top 31)) (defBody (top 31)) (defScope (top 31)) .none kV16 dc16 pm16 an16 cd16 ct16, PySem.W.fnOf "_law_text" "_law_text" (defArgs (top 32)) (defBody (top 32)) (defScope (top 32)) .none kV17 dc17 pm17 an17 cd17 ct17, PySem.W.fnOf "_law_integer" "_law_integer" (defArgs (top 33)) (defBody (top 33)) (defScope (top 33)) .none kV18 dc18 pm18 an18 cd18 ct18, PySem.W.fnOf "_law_read" "_law_read" (defArgs (top 34)) (defBody (top 34)) (defScope (top 34)) .none kV19 dc19 pm19 an19 cd19 ct19, PySem.W.fnOf "_law_bent" "_law_bent" (defArgs (top 35)) (defBody (top 35)) (defScope (top 35)) .none kV20 dc20 pm20 an20 cd20 ct20, PySem.W.fnOf "law" "law" (defArgs (top 36)) (defBody (top 36)) (defScope (top 36)) .none kV21 dc21 pm21 an21 (.ref cd21) ct21].getD i default
  refine ⟨fds 21, [(cd21, P21)], (fun vs H Q E => vs.length = 1 ∧ (spF Z false (callF D 40 21) 1 vs H Q E ∨ ∃ a xs, H a = some (.lst xs) ∧ ∀ o, spF Z false (callF D 40 21) 1 vs (upd H a (.frz o (.lst xs))) Q E)), ?_, ?_, ?_, fun s u => .of_eq rfl, ?_, ?_⟩
  · intro p hp; simp only [List.mem_cons, List.not_mem_nil, or_false] at hp; rcases hp with rfl
    · exact tt21
  · intro p hp; simp only [List.mem_cons, List.not_mem_nil, or_false] at hp; rcases hp with rfl
    · exact lp21
  · intro p hp; simp only [List.mem_cons, List.not_mem_nil, or_false] at hp; rcases hp with rfl
    · exact PySem.W.codeHd_of_K X h21
  · intro H a ns hl _ hT hS
    obtain ⟨_, out, obs, _, hr⟩ := pure_law ns hl
    have fin : ∀ H : Hp, (∀ p ∈ [(cd21, P21)], H p.2 = some (.tbl #[])) → Rp Z [] H (.lst (ns.map .int)) (.ref a) → spF Z false (callF D 40 21) 1 [.ref a] H (fun v _ => v = .bl true) fun _ _ _ => False := fun H hT rp => by
      refine ⟨rfl, [], [.lst (ns.map .int)], [], none, ⟨rfl, List.nodup_nil, fun n o b q => by simp at q, ?_⟩, .plain (.cons rp .nil), ?_⟩
      · intro p hp; simp only [Z, List.mem_cons, List.not_mem_nil, or_false] at hp; rcases hp with rfl
        · exact ⟨#[], hT (cd21, P21) (by simp), True.intro, fun pos cv hc => by simp [codeAmong] at hc⟩
      · rw [hr]; intro ρ' H' x _ r; cases r; rfl
    refine ⟨rfl, ?_⟩
    rcases rp_script nl hS with rp | ha
    · exact .inl (fin H hT rp)
    · refine .inr ⟨a, _, ha, fun o => fin _ (fun p hp => ?_) (.lst upd_same (ints_rp ns))⟩
      rw [upd_ne (ne_of (hT p hp) ha (fun z => nomatch z))]; exact hT p hp
  · intro base hK hG TB
    have T : Txt K mg base Z fds [(cd21, P21)] :=
      { xa := rfl
        F0 := F0
        g0 := PySem.W.mg_of X G a0
        b0 := b0
        F1 := F1
        g1 := PySem.W.mg_of X G a1
        b1 := b1
        F2 := F2
        g2 := PySem.W.mg_of X G a2
        b2 := b2
        F3 := F3
        g3 := PySem.W.mg_of X G a3
        b3 := b3
        F4 := F4
        g4 := PySem.W.mg_of X G a4
        b4 := b4
        F5 := F5
        g5 := PySem.W.mg_of X G a5
        b5 := b5
        F6 := F6
        g6 := PySem.W.mg_of X G a6
        b6 := b6
        F7 := F7
        g7 := PySem.W.mg_of X G a7
        b7 := b7
        F8 := F8
        g8 := PySem.W.mg_of X G a8
        b8 := b8
        F9 := F9
        g9 := PySem.W.mg_of X G a9
        b9 := b9
        F10 := F10
        g10 := PySem.W.mg_of X G a10
        b10 := b10
        F11 := F11
        g11 := PySem.W.mg_of X G a11
        b11 := b11
        F12 := F12
        g12 := PySem.W.mg_of X G a12
        b12 := b12
        F13 := F13
        g13 := PySem.W.mg_of X G a13
        b13 := b13
        F14 := F14
        g14 := PySem.W.mg_of X G a14
        b14 := b14
        F15 := F15
        g15 := PySem.W.mg_of X G a15
        b15 := b15
        F16 := F16
        g16 := PySem.W.mg_of X G a16
        b16 := b16
        F17 := F17
        g17 := PySem.W.mg_of X G a17
        b17 := b17
        F18 := F18
        g18 := PySem.W.mg_of X G a18
        b18 := b18
        F19 := F19
        g19 := PySem.W.mg_of X G a19
        b19 := b19
        F20 := F20
        g20 := PySem.W.mg_of X G a20
        b20 := b20
        F21 := F21
        g21 := PySem.W.mg_of X G a21
        b21 := b21
        z_all := PySem.W.mg_none_of X G z_all
        z_bool := PySem.W.mg_none_of X G z_bool
        z_int := PySem.W.mg_none_of X G z_int
        z_isinstance := PySem.W.mg_none_of X G z_isinstance
        z_len := PySem.W.mg_none_of X G z_len
        z_list := PySem.W.mg_none_of X G z_list
        z_range := PySem.W.mg_none_of X G z_range
        z_str := PySem.W.mg_none_of X G z_str
        z_tuple := PySem.W.mg_none_of X G z_tuple
        z_zip := PySem.W.mg_none_of X G z_zip
        cg0 := PySem.W.mg_of X G aC0
        cg1 := PySem.W.mg_of X G aC1
        cg2 := PySem.W.mg_of X G aC2
        cg3 := PySem.W.mg_of X G aC3
        cg4 := PySem.W.mg_of X G aC4
        cg5 := PySem.W.mg_of X G aC5
        cg6 := PySem.W.mg_of X G aC6
        cg7 := PySem.W.mg_of X G aC7
        cg8 := PySem.W.mg_of X G aC8
        cg9 := PySem.W.mg_of X G aC9
        cg10 := PySem.W.mg_of X G aC10
        ce0 := ec0
        ck0 := kc0
        cs0 := sc0b
        ct0 := tc0
        ce1 := ec1
        ck1 := kc1
        cs1 := sc1b
        ct1 := tc1
        exm := fun c hc => match c, hc with | 0, _ => exm_cls sW ic2 tc2 sc0w | 1, _ => exm_cls sW ic2 tc2 sc1w | c + 2, h => absurd h (by omega)
        exc := fun c hc => match c, hc with | 0, _ => ex0 | 1, _ => ex1 | c + 2, h => absurd h (by omega)
        kitV := fun c hc => match c, hc with | 0, _ => kit_type (by decide +kernel) sc0v | 1, _ => kit_type (by decide +kernel) sc1v | c + 2, h => absurd h (by omega)
        kit := fun c k hc hk hw => match c, k, hc, hk, hw with | 0, 0, _, _, hw => kit_ref ic0 tc0 s0_0 (fun _ => rfl) | 0, 1, _, _, hw => kit_ref ic1 tc1 s0_1 (fun e => absurd (Value.ref.inj e) n0_1) | 0, 2, _, _, hw => absurd rfl hw | 0, 3, _, _, hw => kit_ref ic3 tc3 s0_3 (fun e => absurd (Value.ref.inj e) n0_3) | 0, 4, _, _, hw => kit_ref ic4 tc4 s0_4 (fun e => absurd (Value.ref.inj e) n0_4) | 0, 5, _, _, hw => kit_ref ic5 tc5 s0_5 (fun e => absurd (Value.ref.inj e) n0_5) | 0, 6, _, _, hw => kit_ref ic6 tc6 s0_6 (fun e => absurd (Value.ref.inj e) n0_6) | 0, 7, _, _, hw => kit_ref ic7 tc7 s0_7 (fun e => absurd (Value.ref.inj e) n0_7) | 0, 8, _, _, hw => kit_ref ic8 tc8 s0_8 (fun e => absurd (Value.ref.inj e) n0_8) | 0, 9, _, _, hw => kit_ref ic9 tc9 s0_9 (fun e => absurd (Value.ref.inj e) n0_9) | 0, 10, _, _, hw => kit_ref ic10 tc10 s0_10 (fun e => absurd (Value.ref.inj e) n0_10) | 1, 0, _, _, hw => kit_ref ic0 tc0 s1_0 (fun e => absurd (Value.ref.inj e) n1_0) | 1, 1, _, _, hw => kit_ref ic1 tc1 s1_1 (fun _ => rfl) | 1, 2, _, _, hw => absurd rfl hw | 1, 3, _, _, hw => kit_ref ic3 tc3 s1_3 (fun e => absurd (Value.ref.inj e) n1_3) | 1, 4, _, _, hw => kit_ref ic4 tc4 s1_4 (fun e => absurd (Value.ref.inj e) n1_4) | 1, 5, _, _, hw => kit_ref ic5 tc5 s1_5 (fun e => absurd (Value.ref.inj e) n1_5) | 1, 6, _, _, hw => kit_ref ic6 tc6 s1_6 (fun e => absurd (Value.ref.inj e) n1_6) | 1, 7, _, _, hw => kit_ref ic7 tc7 s1_7 (fun e => absurd (Value.ref.inj e) n1_7) | 1, 8, _, _, hw => kit_ref ic8 tc8 s1_8 (fun e => absurd (Value.ref.inj e) n1_8) | 1, 9, _, _, hw => kit_ref ic9 tc9 s1_9 (fun e => absurd (Value.ref.inj e) n1_9) | 1, 10, _, _, hw => kit_ref ic10 tc10 s1_10 (fun e => absurd (Value.ref.inj e) n1_10) | c + 2, _, h, _, _ => absurd h (by omega) | 0, k + 11, _, h, _ => absurd h (by omega) | 1, k + 11, _, h, _ => absurd h (by omega)
        l0 := rfl
        l1 := rfl
        l2 := rfl
        l3 := rfl
        l4 := rfl
        l5 := rfl
        c21 := rfl
        tb21 := TB (cd21, P21) (by simp)
        tm21 := by simp [Z]
        tu21 := by
          intro p hp e
          simp only [Z, List.mem_cons, List.not_mem_nil, or_false] at hp
          rcases hp with rfl
          · rfl }
    exact fn_frz (all_ok T 40).o21
end K14
end
section
set_option Elab.async false
set_option linter.all false
set_option autoImplicit true
set_option maxRecDepth 100000
set_option maxHeartbeats 4000000
namespace K14.P
open PySem Qv
theorem c0 {n : Nat} {ob : List Ob} {a0 a1 a2 : PV} : callF D (n + 1) 0 [a0, a1, a2] ob = endB false (dS (callF D n) def0.body ⟨[.fr a0, .fr a1, .fr a2], ob⟩) := callF_eq (d := def0) rfl rfl ob
theorem c1 {n : Nat} {ob : List Ob} {a0 a1 a2 : PV} : callF D (n + 1) 1 [a0, a1, a2] ob = endB false (dS (callF D n) def1.body ⟨[.fr a0, .fr a1, .fr a2], ob⟩) := callF_eq (d := def1) rfl rfl ob
theorem c2 {n : Nat} {ob : List Ob} {a0 a1 : PV} : callF D (n + 1) 2 [a0, a1] ob = endB false (dS (callF D n) def2.body ⟨[.fr a0, .fr a1], ob⟩) := callF_eq (d := def2) rfl rfl ob
theorem c3 {n : Nat} {ob : List Ob} {a0 : PV} : callF D (n + 1) 3 [a0] ob = endB false (dS (callF D n) def3.body ⟨[.fr a0, .no], ob⟩) := callF_eq (d := def3) rfl rfl ob
theorem c4 {n : Nat} {ob : List Ob} {a0 : PV} : callF D (n + 1) 4 [a0] ob = endB false (dS (callF D n) def4.body ⟨[.fr a0], ob⟩) := callF_eq (d := def4) rfl rfl ob
theorem c5 {n : Nat} {ob : List Ob} {a0 : PV} : callF D (n + 1) 5 [a0] ob = endB false (dS (callF D n) def5.body ⟨[.fr a0, .no, .no], ob⟩) := callF_eq (d := def5) rfl rfl ob
theorem c6 {n : Nat} {ob : List Ob} {a0 : PV} : callF D (n + 1) 6 [a0] ob = endB false (dS (callF D n) def6.body ⟨[.fr a0], ob⟩) := callF_eq (d := def6) rfl rfl ob
theorem c7 {n : Nat} {ob : List Ob} {a0 : PV} : callF D (n + 1) 7 [a0] ob = endB false (dS (callF D n) def7.body ⟨[.fr a0, .no, .no], ob⟩) := callF_eq (d := def7) rfl rfl ob
theorem c8 {n : Nat} {ob : List Ob} {a0 : PV} : callF D (n + 1) 8 [a0] ob = endB false (dS (callF D n) def8.body ⟨[.fr a0, .no, .no, .no, .no], ob⟩) := callF_eq (d := def8) rfl rfl ob
theorem c9 {n : Nat} {ob : List Ob} {a0 a1 : PV} : callF D (n + 1) 9 [a0, a1] ob = endB false (dS (callF D n) def9.body ⟨[.fr a0, .fr a1], ob⟩) := callF_eq (d := def9) rfl rfl ob
theorem c10 {n : Nat} {ob : List Ob} {a0 a1 a2 a3 : PV} : callF D (n + 1) 10 [a0, a1, a2, a3] ob = endB false (dS (callF D n) def10.body ⟨[.fr a0, .fr a1, .fr a2, .fr a3, .no, .no, .no, .no, .no, .no], ob⟩) := callF_eq (d := def10) rfl rfl ob
theorem c11 {n : Nat} {ob : List Ob} {a0 a1 : PV} : callF D (n + 1) 11 [a0, a1] ob = endB false (dS (callF D n) def11.body ⟨[.fr a0, .fr a1], ob⟩) := callF_eq (d := def11) rfl rfl ob
theorem c12 {n : Nat} {ob : List Ob} {a0 a1 : PV} : callF D (n + 1) 12 [a0, a1] ob = endB true (dS (callF D n) def12.body ⟨[.own a0, .fr a1, .no], ob⟩) := callF_eq (d := def12) rfl rfl ob
theorem c13 {n : Nat} {ob : List Ob} {a0 a1 : PV} : callF D (n + 1) 13 [a0, a1] ob = endB true (dS (callF D n) def13.body ⟨[.own a0, .fr a1], ob⟩) := callF_eq (d := def13) rfl rfl ob
theorem c14 {n : Nat} {ob : List Ob} {a0 a1 a2 : PV} : callF D (n + 1) 14 [a0, a1, a2] ob = endB true (dS (callF D n) def14.body ⟨[.own a0, .fr a1, .fr a2, .no, .no, .no, .no, .no], ob⟩) := callF_eq (d := def14) rfl rfl ob
theorem c15 {n : Nat} {ob : List Ob} {a0 : PV} : callF D (n + 1) 15 [a0] ob = endB false (dS (callF D n) def15.body ⟨[.fr a0, .no, .no, .no, .no], ob⟩) := callF_eq (d := def15) rfl rfl ob
theorem c16 {n : Nat} {ob : List Ob} {a0 : PV} : callF D (n + 1) 16 [a0] ob = endB false (dS (callF D n) def16.body ⟨[.fr a0, .no], ob⟩) := callF_eq (d := def16) rfl rfl ob
theorem c17 {n : Nat} {ob : List Ob} {a0 : PV} : callF D (n + 1) 17 [a0] ob = endB false (dS (callF D n) def17.body ⟨[.fr a0, .no, .no, .no], ob⟩) := callF_eq (d := def17) rfl rfl ob
theorem c18 {n : Nat} {ob : List Ob} {a0 : PV} : callF D (n + 1) 18 [a0] ob = endB false (dS (callF D n) def18.body ⟨[.fr a0, .no], ob⟩) := callF_eq (d := def18) rfl rfl ob
theorem c19 {n : Nat} {ob : List Ob} {a0 : PV} : callF D (n + 1) 19 [a0] ob = endB false (dS (callF D n) def19.body ⟨[.fr a0, .no, .no, .no, .no, .no], ob⟩) := callF_eq (d := def19) rfl rfl ob
theorem c20 {n : Nat} {ob : List Ob} {a0 a1 : PV} : callF D (n + 1) 20 [a0, a1] ob = endB true (dS (callF D n) def20.body ⟨[.own a0, .fr a1, .no, .no, .no, .no, .no], ob⟩) := callF_eq (d := def20) rfl rfl ob
theorem c21 {n : Nat} {ob : List Ob} {a0 : PV} : callF D (n + 1) 21 [a0] ob = endB false (dS (callF D n) def21.body ⟨[.fr a0, .no, .no, .no, .no, .no, .no, .no, .no, .no], ob⟩) := callF_eq (d := def21) rfl rfl ob
theorem c22 {n : Nat} {ob : List Ob} : callF D (n + 1) 22 [] ob = endB false (dS (callF D n) def22.body ⟨[], ob⟩) := callF_eq (d := def22) rfl rfl ob
theorem c23 {n : Nat} {ob : List Ob} {a0 : PV} : callF D (n + 1) 23 [a0] ob = endB false (dS (callF D n) def23.body ⟨[.fr a0], ob⟩) := callF_eq (d := def23) rfl rfl ob
theorem c24 {n : Nat} {ob : List Ob} {a0 : PV} : callF D (n + 1) 24 [a0] ob = endB false (dS (callF D n) def24.body ⟨[.fr a0], ob⟩) := callF_eq (d := def24) rfl rfl ob
theorem c25 {n : Nat} {ob : List Ob} {a0 : PV} : callF D (n + 1) 25 [a0] ob = endB false (dS (callF D n) def25.body ⟨[.fr a0], ob⟩) := callF_eq (d := def25) rfl rfl ob
theorem c26 {n : Nat} {ob : List Ob} {a0 : PV} : callF D (n + 1) 26 [a0] ob = endB false (dS (callF D n) def26.body ⟨[.fr a0], ob⟩) := callF_eq (d := def26) rfl rfl ob
theorem c27 {n : Nat} {ob : List Ob} {a0 : PV} : callF D (n + 1) 27 [a0] ob = endB false (dS (callF D n) def27.body ⟨[.fr a0], ob⟩) := callF_eq (d := def27) rfl rfl ob

local macro_rules | `(tactic| walk_at "ev") => `(tactic| simp only [↓e_var, ↓e_cst, ↓k_e_bin4_eq, ↓k_e_bin3_eq, ↓k_e_bin2_eq, ↓k_e_bin1_eq, ↓e_bin, ↓k_e_neg2_eq, ↓k_e_neg1_eq, ↓e_neg, ↓condE_eq, ↓k_e_nt1_eq, ↓e_nt, ↓k_e_an2_eq, ↓k_e_an1_eq, ↓e_an, ↓k_e_orr2_eq, ↓k_e_orr1_eq, ↓e_orr, ↓k_e_ite1_eq, ↓e_ite, ↓k_e_tup1_eq, ↓e_tup, ↓k_e_lst1_eq, ↓e_lst, ↓k_e_cmp4_eq, ↓k_e_cmp3_eq, ↓k_e_cmp2_eq, ↓k_e_cmp1_eq, ↓e_cmp, ↓k_chnR_eq3_eq, ↓k_chnR_eq2_eq, ↓k_chnR_eq1_eq, ↓chnR_eq, ↓k_e_chn6_eq, ↓k_e_chn5_eq, ↓k_e_chn4_eq, ↓k_e_chn3_eq, ↓k_e_chn2_eq, ↓k_e_chn1_eq, ↓e_chn, ↓callR_eq, ↓k_e_call1_eq, ↓e_call, ↓callbR_eq, ↓k_e_callb3_eq, ↓k_e_callb2_eq, ↓k_e_callb1_eq, ↓e_callb, ↓callkR_eq, ↓k_e_callk2_eq, ↓k_e_callk1_eq, ↓e_callk, ↓callvA_eq, ↓k_e_callv1_eq, ↓e_callv, ↓k_e_bi1_eq, ↓e_bi, ↓k_e_callx2_eq, ↓k_e_callx1_eq, ↓e_callx, ↓k_e_tx5_eq, ↓k_e_tx4_eq, ↓k_e_tx3_eq, ↓k_e_tx2_eq, ↓k_e_tx1_eq, ↓e_tx, ↓k_e_ix4_eq, ↓k_e_ix3_eq, ↓k_e_ix2_eq, ↓k_e_ix1_eq, ↓e_ix, ↓k_e_sl4_eq, ↓k_e_sl3_eq, ↓k_e_sl2_eq, ↓k_e_sl1_eq, ↓e_sl, ↓k_e_fmt2_eq, ↓k_e_fmt1_eq, ↓e_fmt, ↓k_e_revt2_eq, ↓k_e_revt1_eq, ↓e_revt, ↓k_e_js1_eq, ↓e_js, ↓dj_nil', ↓k_dj_cons'3_eq, ↓k_dj_cons'2_eq, ↓k_dj_cons'1_eq, ↓dj_cons', ↓k_e_rev2_eq, ↓k_e_rev1_eq, ↓e_rev, ↓eltM_eq, ↓k_e_comp2_eq, ↓k_e_comp1_eq, ↓e_comp, ↓e_pop0, ↓a_nil', ↓k_a_cons'3_eq, ↓k_a_cons'2_eq, ↓k_a_cons'1_eq, ↓a_cons', ↓d_nil', ↓k_d_cons'3_eq, ↓k_d_cons'2_eq, ↓k_d_cons'1_eq, ↓d_cons', ↓v_nil', ↓k_v_cons'3_eq, ↓k_v_cons'2_eq, ↓k_v_cons'1_eq, ↓v_cons', ↓k_i_zip'4_eq, ↓k_i_zip'3_eq, ↓k_i_zip'2_eq, ↓k_i_zip'1_eq, ↓i_zip', ↓k_i_zipL'4_eq, ↓k_i_zipL'3_eq, ↓k_i_zipL'2_eq, ↓k_i_zipL'1_eq, ↓i_zipL', ↓k_i_rng1'1_eq, ↓i_rng1', ↓k_i_rng2'3_eq, ↓k_i_rng2'2_eq, ↓k_i_rng2'1_eq, ↓i_rng2', ↓k_i_enm'2_eq, ↓k_i_enm'1_eq, ↓i_enm', ↓k_i_seqI'2_eq, ↓k_i_seqI'1_eq, ↓i_seqI', ↓partO_var, ↓condB_var, ↓partO_cst, ↓condB_cst, ↓partO_bin, ↓condB_bin, ↓partO_neg, ↓condB_neg, ↓partO_ix, ↓condB_ix, ↓partO_bi, ↓condB_bi, ↓partO_call, ↓condB_call, ↓partO_callb, ↓condB_callb, ↓partO_cmp, ↓condB_cmp, ↓partO_nt, ↓condB_nt, ↓partO_an, ↓condB_an, ↓partO_orr, ↓condB_orr, ↓partO_callk, ↓condB_callk, ↓partO_ite, ↓condB_ite, ↓partO_chn, ↓condB_chn, ↓partO_pop0, ↓condB_pop0, ↓st_skip', ↓k_st_seq'1_eq, ↓st_seq', ↓k_st_asg'3_eq, ↓k_st_asg'2_eq, ↓k_st_asg'1_eq, ↓st_asg', ↓k_st_asgT'3_eq, ↓k_st_asgT'2_eq, ↓k_st_asgT'1_eq, ↓st_asgT', ↓k_st_asgP'2_eq, ↓k_st_asgP'1_eq, ↓st_asgP', ↓k_st_ixs'7_eq, ↓k_st_ixs'6_eq, ↓k_st_ixs'5_eq, ↓k_st_ixs'4_eq, ↓k_st_ixs'3_eq, ↓k_st_ixs'2_eq, ↓k_st_ixs'1_eq, ↓st_ixs', ↓k_st_app'5_eq, ↓k_st_app'4_eq, ↓k_st_app'3_eq, ↓k_st_app'2_eq, ↓k_st_app'1_eq, ↓st_app', ↓k_st_exp'1_eq, ↓st_exp', ↓k_st_ret'1_eq, ↓st_ret', ↓k_st_ifs'1_eq, ↓st_ifs', ↓k_st_fr'1_eq, ↓st_fr', ↓st_rais', ↓k_ixM_eq5_eq, ↓k_ixM_eq4_eq, ↓k_ixM_eq3_eq, ↓k_ixM_eq2_eq, ↓k_ixM_eq1_eq, ↓ixM_eq, ↓st_ix2', ntB_eq, blK_eq, callvR_fn, okL_eq, nxK_eq, putK_eq, frK_eq, setVsK_eq, setTgsK_eq, consK_eq, frzsK_eq, someK_eq, partK_eq, lk0, il0, lk1, il1, lk2, il2, lk3, il3, lk4, il4, lk5, il5, lk6, il6, lk7, il7, lk8, il8, lk9, il9, lk10, il10, lk11, il11, lk12, il12, lk13, il13, lk14, il14, lk15, il15, lk16, il16, R.bind_ok, R.bind_exc, R.bind_bad, slE_fr, slE_own, slD_fr, slD_own, slF_fr, slF_own, slW_own, slR_fr, deref_fr, deref_own, deref_sl, frz_fr, frz_own, frz_sl, ownAt_eq, frAt_eq, ofO_some, ofO_none, rvB_fr, rvI_fr, andG_t, andG_f, orG_t, orG_f, ifR_t, ifR_f, okM_eq, badM_eq, pop0S_cons, seqOf_lst, seqOf_tup, zipM_l, zipM_t, zipLM_l, enmM_l, asExn_x, asStr_s, frzs_nil, frzs_cons, partO_nil, condB_nil, settle_fr, settle_own, stB_t, stB_f, settle_sl, noSl_fr, noSl_own, noSl_sl, setV_fr, setV_own, setV_sl, setVs_nil, setVs_cons, setTg_nm, setTg_tp, setTgs_nil, setTgs_cons, putM_eq, raiseM_eq, thenS_nx, thenS_ret, toM_fr, toM_own, toM_exc, toMb_fr, toMb_own, keep_exc, obs_mk, env_mk, finB_f, finB_t, endB_nx, endB_fr, endB_own, endS_own, endS_fr, endB_slf, endB_slt, endB_exc, ix2G_2, ix2K_eq, wipe_nil, wipe_cons, Nat.beq, sA0, sA1, sA2, sA3, sA4, sA5, sA6, sA7, sA8, sA9, sA10, sA11, sA12, sA13, sA14, sA15, sA16, sA17, sA18, sA19, sP0, sP1, sP2, sP3, sP4, sP5, sP6, sP7, sP8, sP9, sP10, sP11, sP12, sP13, sP14, sP15, sP16, sP17, sP18, sP19, o0_, o1_, o2_, o3_, o4_, o5_, o6_, o7_, o8_, o9_, o10_, o11_, o12_, o13_, o14_, o15_, o16_, o17_, o18_, o19_, o20_, o21_, o22_, o23_, o24_, o25_, o26_, o27_, o28_, o29_, o30_, o31_, o32_, o33_, o34_, o35_, o36_, o37_, o38_, o39_, o40_, o41_, o42_, o43_, o44_, o45_, o46_, o47_, o48_, o49_, o50_, o51_, o52_, o53_, o54_, o55_, o56_, o57_, o58_, o59_, o60_, o61_, o62_, o63_, o64_, o65_, o66_, turnR_eq, turnK_eq, cT4_eq, cT3_eq, cT0_eq, cT2_eq, cT1_eq, cTurn_eq, forGo_nil, atI0, atI1, atI2, atI3, pyEq_ii, pyEq_bb, Int.reduceBEq, Int.reduceLT, Int.reduceLE, Int.reduceAdd, Int.reduceSub, Int.reduceNeg, Int.reduceMul, decide_true, decide_false, Bool.not_true, Bool.not_false, Bool.false_and, Bool.true_and, Bool.and_true, Bool.and_false, Bool.or_false, Bool.false_or, Bool.true_or, Bool.or_true])
local macro_rules | `(tactic| walk_at "ev?") => `(tactic| (try simp only [↓e_var, ↓e_cst, ↓k_e_bin4_eq, ↓k_e_bin3_eq, ↓k_e_bin2_eq, ↓k_e_bin1_eq, ↓e_bin, ↓k_e_neg2_eq, ↓k_e_neg1_eq, ↓e_neg, ↓condE_eq, ↓k_e_nt1_eq, ↓e_nt, ↓k_e_an2_eq, ↓k_e_an1_eq, ↓e_an, ↓k_e_orr2_eq, ↓k_e_orr1_eq, ↓e_orr, ↓k_e_ite1_eq, ↓e_ite, ↓k_e_tup1_eq, ↓e_tup, ↓k_e_lst1_eq, ↓e_lst, ↓k_e_cmp4_eq, ↓k_e_cmp3_eq, ↓k_e_cmp2_eq, ↓k_e_cmp1_eq, ↓e_cmp, ↓k_chnR_eq3_eq, ↓k_chnR_eq2_eq, ↓k_chnR_eq1_eq, ↓chnR_eq, ↓k_e_chn6_eq, ↓k_e_chn5_eq, ↓k_e_chn4_eq, ↓k_e_chn3_eq, ↓k_e_chn2_eq, ↓k_e_chn1_eq, ↓e_chn, ↓callR_eq, ↓k_e_call1_eq, ↓e_call, ↓callbR_eq, ↓k_e_callb3_eq, ↓k_e_callb2_eq, ↓k_e_callb1_eq, ↓e_callb, ↓callkR_eq, ↓k_e_callk2_eq, ↓k_e_callk1_eq, ↓e_callk, ↓callvA_eq, ↓k_e_callv1_eq, ↓e_callv, ↓k_e_bi1_eq, ↓e_bi, ↓k_e_callx2_eq, ↓k_e_callx1_eq, ↓e_callx, ↓k_e_tx5_eq, ↓k_e_tx4_eq, ↓k_e_tx3_eq, ↓k_e_tx2_eq, ↓k_e_tx1_eq, ↓e_tx, ↓k_e_ix4_eq, ↓k_e_ix3_eq, ↓k_e_ix2_eq, ↓k_e_ix1_eq, ↓e_ix, ↓k_e_sl4_eq, ↓k_e_sl3_eq, ↓k_e_sl2_eq, ↓k_e_sl1_eq, ↓e_sl, ↓k_e_fmt2_eq, ↓k_e_fmt1_eq, ↓e_fmt, ↓k_e_revt2_eq, ↓k_e_revt1_eq, ↓e_revt, ↓k_e_js1_eq, ↓e_js, ↓dj_nil', ↓k_dj_cons'3_eq, ↓k_dj_cons'2_eq, ↓k_dj_cons'1_eq, ↓dj_cons', ↓k_e_rev2_eq, ↓k_e_rev1_eq, ↓e_rev, ↓eltM_eq, ↓k_e_comp2_eq, ↓k_e_comp1_eq, ↓e_comp, ↓e_pop0, ↓a_nil', ↓k_a_cons'3_eq, ↓k_a_cons'2_eq, ↓k_a_cons'1_eq, ↓a_cons', ↓d_nil', ↓k_d_cons'3_eq, ↓k_d_cons'2_eq, ↓k_d_cons'1_eq, ↓d_cons', ↓v_nil', ↓k_v_cons'3_eq, ↓k_v_cons'2_eq, ↓k_v_cons'1_eq, ↓v_cons', ↓k_i_zip'4_eq, ↓k_i_zip'3_eq, ↓k_i_zip'2_eq, ↓k_i_zip'1_eq, ↓i_zip', ↓k_i_zipL'4_eq, ↓k_i_zipL'3_eq, ↓k_i_zipL'2_eq, ↓k_i_zipL'1_eq, ↓i_zipL', ↓k_i_rng1'1_eq, ↓i_rng1', ↓k_i_rng2'3_eq, ↓k_i_rng2'2_eq, ↓k_i_rng2'1_eq, ↓i_rng2', ↓k_i_enm'2_eq, ↓k_i_enm'1_eq, ↓i_enm', ↓k_i_seqI'2_eq, ↓k_i_seqI'1_eq, ↓i_seqI', ↓partO_var, ↓condB_var, ↓partO_cst, ↓condB_cst, ↓partO_bin, ↓condB_bin, ↓partO_neg, ↓condB_neg, ↓partO_ix, ↓condB_ix, ↓partO_bi, ↓condB_bi, ↓partO_call, ↓condB_call, ↓partO_callb, ↓condB_callb, ↓partO_cmp, ↓condB_cmp, ↓partO_nt, ↓condB_nt, ↓partO_an, ↓condB_an, ↓partO_orr, ↓condB_orr, ↓partO_callk, ↓condB_callk, ↓partO_ite, ↓condB_ite, ↓partO_chn, ↓condB_chn, ↓partO_pop0, ↓condB_pop0, ↓st_skip', ↓k_st_seq'1_eq, ↓st_seq', ↓k_st_asg'3_eq, ↓k_st_asg'2_eq, ↓k_st_asg'1_eq, ↓st_asg', ↓k_st_asgT'3_eq, ↓k_st_asgT'2_eq, ↓k_st_asgT'1_eq, ↓st_asgT', ↓k_st_asgP'2_eq, ↓k_st_asgP'1_eq, ↓st_asgP', ↓k_st_ixs'7_eq, ↓k_st_ixs'6_eq, ↓k_st_ixs'5_eq, ↓k_st_ixs'4_eq, ↓k_st_ixs'3_eq, ↓k_st_ixs'2_eq, ↓k_st_ixs'1_eq, ↓st_ixs', ↓k_st_app'5_eq, ↓k_st_app'4_eq, ↓k_st_app'3_eq, ↓k_st_app'2_eq, ↓k_st_app'1_eq, ↓st_app', ↓k_st_exp'1_eq, ↓st_exp', ↓k_st_ret'1_eq, ↓st_ret', ↓k_st_ifs'1_eq, ↓st_ifs', ↓k_st_fr'1_eq, ↓st_fr', ↓st_rais', ↓k_ixM_eq5_eq, ↓k_ixM_eq4_eq, ↓k_ixM_eq3_eq, ↓k_ixM_eq2_eq, ↓k_ixM_eq1_eq, ↓ixM_eq, ↓st_ix2', ntB_eq, blK_eq, callvR_fn, okL_eq, nxK_eq, putK_eq, frK_eq, setVsK_eq, setTgsK_eq, consK_eq, frzsK_eq, someK_eq, partK_eq, lk0, il0, lk1, il1, lk2, il2, lk3, il3, lk4, il4, lk5, il5, lk6, il6, lk7, il7, lk8, il8, lk9, il9, lk10, il10, lk11, il11, lk12, il12, lk13, il13, lk14, il14, lk15, il15, lk16, il16, R.bind_ok, R.bind_exc, R.bind_bad, slE_fr, slE_own, slD_fr, slD_own, slF_fr, slF_own, slW_own, slR_fr, deref_fr, deref_own, deref_sl, frz_fr, frz_own, frz_sl, ownAt_eq, frAt_eq, ofO_some, ofO_none, rvB_fr, rvI_fr, andG_t, andG_f, orG_t, orG_f, ifR_t, ifR_f, okM_eq, badM_eq, pop0S_cons, seqOf_lst, seqOf_tup, zipM_l, zipM_t, zipLM_l, enmM_l, asExn_x, asStr_s, frzs_nil, frzs_cons, partO_nil, condB_nil, settle_fr, settle_own, stB_t, stB_f, settle_sl, noSl_fr, noSl_own, noSl_sl, setV_fr, setV_own, setV_sl, setVs_nil, setVs_cons, setTg_nm, setTg_tp, setTgs_nil, setTgs_cons, putM_eq, raiseM_eq, thenS_nx, thenS_ret, toM_fr, toM_own, toM_exc, toMb_fr, toMb_own, keep_exc, obs_mk, env_mk, finB_f, finB_t, endB_nx, endB_fr, endB_own, endS_own, endS_fr, endB_slf, endB_slt, endB_exc, ix2G_2, ix2K_eq, wipe_nil, wipe_cons, Nat.beq, sA0, sA1, sA2, sA3, sA4, sA5, sA6, sA7, sA8, sA9, sA10, sA11, sA12, sA13, sA14, sA15, sA16, sA17, sA18, sA19, sP0, sP1, sP2, sP3, sP4, sP5, sP6, sP7, sP8, sP9, sP10, sP11, sP12, sP13, sP14, sP15, sP16, sP17, sP18, sP19, o0_, o1_, o2_, o3_, o4_, o5_, o6_, o7_, o8_, o9_, o10_, o11_, o12_, o13_, o14_, o15_, o16_, o17_, o18_, o19_, o20_, o21_, o22_, o23_, o24_, o25_, o26_, o27_, o28_, o29_, o30_, o31_, o32_, o33_, o34_, o35_, o36_, o37_, o38_, o39_, o40_, o41_, o42_, o43_, o44_, o45_, o46_, o47_, o48_, o49_, o50_, o51_, o52_, o53_, o54_, o55_, o56_, o57_, o58_, o59_, o60_, o61_, o62_, o63_, o64_, o65_, o66_, turnR_eq, turnK_eq, cT4_eq, cT3_eq, cT0_eq, cT2_eq, cT1_eq, cTurn_eq, forGo_nil, atI0, atI1, atI2, atI3, pyEq_ii, pyEq_bb, Int.reduceBEq, Int.reduceLT, Int.reduceLE, Int.reduceAdd, Int.reduceSub, Int.reduceNeg, Int.reduceMul, decide_true, decide_false, Bool.not_true, Bool.not_false, Bool.false_and, Bool.true_and, Bool.and_true, Bool.and_false, Bool.or_false, Bool.false_or, Bool.true_or, Bool.or_true]))

def isW (v : PV) (lo hi : Int) : Bool := match v with
  | .int i => decide (lo ≤ i) && decide (i ≤ hi)
  | _ => false
theorem sWhole {n : Nat} {ob : List Ob} {v : PV} {lo hi : Int} (h : PL L d v) : callF D (n + 1) 0 [v, .int lo, .int hi] ob = .ok (.bl (isW v lo hi)) false .non ob := by
  rw [c0]; simp only [def0]
  cases h with
  | @int d i =>
    walk_at "ev"
    by_cases a : lo ≤ i <;> simp only [a, decide_true, decide_false] <;> walk_at "ev" <;> simp [isW, a]
  | _ => walk_at "ev"; simp only [isW]
def isR (v : PV) (lo hi : Int) : Bool := match v with
  | .tup xs => decide (lo ≤ xs.length) && decide ((xs.length : Int) ≤ hi)
  | _ => false
theorem sRow {n : Nat} {ob : List Ob} {v : PV} {lo hi : Int} (h : PL L d v) : callF D (n + 1) 1 [v, .int lo, .int hi] ob = .ok (.bl (isR v lo hi)) false .non ob := by
  rw [c1]; simp only [def1]
  cases h with
  | @tup d xs =>
    walk_at "ev"
    by_cases a : lo ≤ xs.length <;> simp only [a, decide_true, decide_false] <;> walk_at "ev" <;> simp [isR, a]
  | _ => walk_at "ev"; simp only [isR]
theorem ok_push : PyData.strOk "push" = true := by decide +kernel
theorem ok_turn : PyData.strOk "turn" = true := by decide +kernel
theorem ok_zero : PyData.strOk "zero" = true := by decide +kernel
/-- a deed of so many wheels -/
def goodDeed (w : Int) (v : PV) : Bool := match v with
  | .tup [.str k, a] => isW a 0 (w - 1) && (k == "zero")
  | .tup [.str k, a, m] => isW a 0 (w - 1) && ((k == "push" || k == "turn") && (isW m (-9) 9 && !eqP m (.int 0)))
  | _ => false
theorem pl3 {L d : Nat} {x y z : PV} (h : ∀ a ∈ [x, y, z], PL L d a) : PL L d x ∧ PL L d y ∧ PL L d z := ⟨h x (by simp), h y (by simp), h z (by simp)⟩
theorem pl2 {L d : Nat} {x y : PV} (h : ∀ a ∈ [x, y], PL L d a) : PL L d x ∧ PL L d y := ⟨h x (by simp), h y (by simp)⟩
theorem any2 {p : PV → Bool} {x y : PV} : List.any [x, y] p = (p x || p y) := by simp
theorem beq_sym (a b : Str) : (a == b) = (b == a) := by
  by_cases h : a = b
  · simp [h]
  · rw [beq_eq_false_iff_ne.mpr h, beq_eq_false_iff_ne.mpr (Ne.symm h)]
theorem sDeed {n : Nat} {ob : List Ob} {v : PV} {w : Int} (h : PL L d v) (hd : d ≤ 60) : callF D (n + 2) 2 [.int w, v] ob = .ok (.bl (goodDeed w v)) false .non ob := by
  rw [c2]; simp only [def2]
  walk_at "ev"
  rw [sRow h]
  walk_at "ev"
  cases h with
  | @tup d xs hl hx =>
    match xs with
    | [] => simp [isR]; walk_at "ev"; simp only [goodDeed]
    | [x] => simp [isR]; walk_at "ev"; simp only [goodDeed]
    | [x, y] =>
      simp [isR]; walk_at "ev"
      obtain ⟨px, py⟩ := pl2 hx
      cases px with
      | @str d z hz =>
        walk_at "ev"
        rw [sWhole py]
        walk_at "ev"
        cases hb : isW y 0 (w - 1) <;> walk_at "ev"
        · simp [goodDeed, hb]
        · walk_at "ev?"; rw [pyEq_ss hz ok_zero]; walk_at "ev"; simp [goodDeed, hb]
      | _ => walk_at "ev"; simp only [goodDeed]
    | [x, y, z] =>
      simp [isR]; walk_at "ev"
      obtain ⟨px, py, pz⟩ := pl3 hx
      cases px with
      | @str d k hz =>
        walk_at "ev"
        rw [sWhole py]
        walk_at "ev"
        cases hb : isW y 0 (w - 1) <;> walk_at "ev"
        · simp [goodDeed, hb]
        · walk_at "ev?"
          rw [pyIn_pl (PL.str (L := 0) (d := 0) hz) (PL.tup (L := 2) (d := 0) (xs := [.str "push", .str "turn"]) (by simp) (by intro x hx; simp at hx; rcases hx with rfl | rfl; exact .str ok_push; exact .str ok_turn)) (by decide) (by decide)]
          rw [any2, eqP_ss, eqP_ss, beq_sym "push" k, beq_sym "turn" k]
          walk_at "ev"
          cases hc : (k == ("push" : Str) || k == ("turn" : Str)) <;> walk_at "ev"
          · simp only [goodDeed, hb, hc, Bool.false_and, Bool.and_false]
          · rw [sWhole pz]; walk_at "ev"
            cases he : isW z (-9) 9 <;> walk_at "ev"
            · simp only [goodDeed, hb, hc, he, Bool.false_and, Bool.and_false]
            · rw [pyEq_pl pz (PL.int (L := 0) (d := 0)) (by omega) (by decide)]; walk_at "ev"
              simp only [goodDeed, hb, hc, he, Bool.true_and]
      | _ => walk_at "ev"; simp only [goodDeed]
    | x :: y :: z :: u :: r => 
      have : isR (.tup (x :: y :: z :: u :: r)) 2 3 = false := by simp [isR]; omega
      rw [this]; walk_at "ev"; simp only [goodDeed]
  | _ => simp only [isR]; walk_at "ev"; simp only [goodDeed]
def goodScript (v : PV) : Bool := match v with
  | .tup [w, .tup ds] => match w with
    | .int k => isW (.int k) 1 3 && (decide (ds.length ≤ 4) && ds.all (goodDeed k))
    | _ => false
  | _ => false
theorem sScript {n : Nat} {ob : List Ob} {v : PV} (h : PL L d v) (hd : d ≤ 60) : callF D (n + 3) 3 [v] ob = .ok (.bl (goodScript v)) false .non ob := by
  rw [c3]; simp only [def3]
  walk_at "ev"
  rw [sRow h]
  walk_at "ev"
  cases h with
  | @tup d xs hl hx =>
    match xs with
    | [] => simp [isR]; walk_at "ev"; simp only [goodScript]
    | [x] => simp [isR]; walk_at "ev"; simp only [goodScript]
    | [x, y] =>
      simp [isR]; walk_at "ev"
      obtain ⟨px, py⟩ := pl2 hx
      rw [sWhole px]
      walk_at "ev"
      cases hb : isW x 1 3 <;> walk_at "ev"
      · cases px <;> cases py <;> simp_all [goodScript]
      · rw [sRow py]; walk_at "ev"
        cases py with
        | @tup d ds hl2 hds =>
          cases px with
          | @int _ k =>
            by_cases hc : ds.length ≤ 4
            · have : isR (.tup ds) 0 4 = true := by simp [isR]; omega
              rw [this]; walk_at "ev"
              rw [comp_map (fun v => .bl (goodDeed k v)) (by
                intro v hv
                refine ⟨⟨[_, .fr v], _⟩, ?_, rfl⟩
                walk_at "ev"
                rw [sDeed (hds v hv) (by omega)]
                walk_at "ev") _ rfl]
              walk_at "ev"
              rw [bls_map]
              walk_at "ev"
              simp only [goodScript, hb, hc, decide_true, Bool.true_and]
              congr 2
              simp
            · have : isR (.tup ds) 0 4 = false := by simp [isR]; omega
              rw [this]; walk_at "ev"
              simp only [goodScript, hc, decide_false, Bool.false_and, Bool.and_false]
          | _ => simp [isW] at hb
        | _ => simp only [isR]; walk_at "ev"; simp only [goodScript]
    | x :: y :: z :: r => 
      have : isR (.tup (x :: y :: z :: r)) 2 2 = false := by simp [isR]; omega
      rw [this]; walk_at "ev"; simp only [goodScript]
  | _ => simp only [isR]; walk_at "ev"; simp only [goodScript]
theorem any3 {p : PV → Bool} {x y z : PV} : List.any [x, y, z] p = (p x || (p y || p z)) := by simp
theorem push_ne_zero : (("push" : Str) == ("zero" : Str)) = false := by decide +kernel
theorem turn_ne_zero : (("turn" : Str) == ("zero" : Str)) = false := by decide +kernel
theorem zero_ne_push : (("zero" : Str) == ("push" : Str)) = false := by decide +kernel
theorem zero_ne_turn : (("zero" : Str) == ("turn" : Str)) = false := by decide +kernel
theorem pyIn3 {k : Str} (hz : PyData.strOk k = true) : pyIn (.str k) [.str "push", .str "turn", .str "zero"] = some (k == "push" || (k == "turn" || k == "zero")) := by
  rw [pyIn_pl (PL.str (L := 0) (d := 0) hz) (PL.tup (L := 3) (d := 0) (xs := [.str "push", .str "turn", .str "zero"]) (by simp) (by intro x hx; simp at hx; rcases hx with rfl | rfl | rfl; exact .str ok_push; exact .str ok_turn; exact .str ok_zero)) (by decide) (by decide)]
  rw [any3, eqP_ss, eqP_ss, eqP_ss, beq_sym "push" k, beq_sym "turn" k, beq_sym "zero" k]
def rowsOf (v : PV) (many lo hi : Int) : Bool := match v with
  | .tup xs => decide ((xs.length : Int) = many) && xs.all fun x => isW x lo hi
  | _ => false
theorem all_id (xs : List PV) (f : PV → Bool) : (xs.map f).all id = xs.all f := by simp [List.all_map]
theorem isR_eq {xs : List PV} {w : Int} : isR (.tup xs) w w = decide ((xs.length : Int) = w) := by
  simp only [isR, ← Bool.decide_and]; congr 1; apply propext; omega
theorem fm_nil (p : PV → Bool) : ∀ xs : List PV, (xs.filterMap fun v => if p v = true then none else some v).isEmpty = xs.all p
  | [] => rfl
  | x :: xs => by
    cases h : p x
    · simp [List.filterMap_cons, h]
    · simp [List.filterMap_cons, h, fm_nil p xs]
theorem pyEq_fm {L d : Nat} {xs : List PV} (hl : xs.length ≤ L) (hx : ∀ x ∈ xs, PL L d x) (hd : d ≤ 63) (p : PV → Bool) : pyEq (.lst (xs.filterMap fun v => if p v = true then none else some v)) (.lst []) = some (xs.all p) := by
  rw [pyEq_nil (L := L) (d := d) (fun x hx' => ?_) (Nat.le_trans (List.length_filterMap_le _ _) hl) hd, fm_nil]
  obtain ⟨y, hy, e⟩ := List.mem_filterMap.mp hx'
  split at e
  · cases e
  · cases e; exact hx _ hy
def goodWord (w many : Int) (v : PV) : Bool := match v with
  | .tup xs => decide ((xs.length : Int) = many) && xs.all fun x => rowsOf x w (-9) 9
  | _ => false
theorem all_and (xs : List PV) (p q : PV → Bool) : (xs.all p && xs.all fun x => q x) = xs.all fun x => p x && q x := by
  induction xs with
  | nil => rfl
  | cons x xs ih => simp only [List.all_cons, ← ih]; cases p x <;> cases q x <;> simp
def insW (v : PV) (lo hi : Int) : Bool := match v with
  | .tup xs => xs.all fun x => isW x lo hi
  | _ => false
theorem row_split {v : PV} {w lo hi : Int} {L d : Nat} (h : PL L d v) : rowsOf v w lo hi = (isR v w w && insW v lo hi) := by
  cases h <;> simp only [rowsOf, isR_eq, insW] <;> rfl
theorem sNeedS {n : Nat} {ob : List Ob} {v : PV} (h : PL L d v) (hd : d ≤ 60) : callF D (n + 4) 4 [v] ob = if goodScript v = true then .ok .non false .non ob else .exc 0 ob := by
  rw [c4]; simp only [def4]
  walk_at "ev"
  rw [sScript h hd]
  walk_at "ev"
  cases goodScript v <;> walk_at "ev" <;> rfl
theorem log2_lt {n k : Nat} (h : n < 2 ^ k) (hk : 0 < k) : n.log2 < k := by
  by_cases h0 : n = 0
  · subst h0; simpa using hk
  · exact (Nat.log2_lt h0).mpr h
theorem opMul {i j : Int} (hi : i.natAbs < 2 ^ 400) (hj : j.natAbs < 2 ^ 400) : opBin .mul (.int i) (.int j) = some (.fr (.int (i * j))) := by
  have a := log2_lt hi (by decide)
  have b := log2_lt hj (by decide)
  have : decide (i.natAbs.log2 + j.natAbs.log2 < 1000000) = true := by simp only [decide_eq_true_eq]; omega
  simp only [opBin, this, if_true]
theorem opMod {i j : Int} (hj : 0 < j) : opBin .mod (.int i) (.int j) = some (.fr (.int (i % j))) := by
  simp only [opBin, decide_eq_true hj, if_true]
theorem opFdv {i j : Int} (hj : 0 < j) (hb : j.natAbs < 2 ^ 400) : opBin .fdv (.int i) (.int j) = some (.fr (.int (i / j))) := by
  have a := log2_lt hb (by decide)
  have : decide (j.natAbs.log2 < 9000) = true := by simp only [decide_eq_true_eq]; omega
  simp only [opBin, decide_eq_true hj, this, Bool.and_self, if_true]
theorem p400 {i : Int} (h : -1000000000000000000000000000000000000000000 < i) (h' : i < 1000000000000000000000000000000000000000000) : i.natAbs < 2 ^ 400 := by
  have e : (1000000000000000000000000000000000000000000 : Nat) < 2 ^ 400 := by decide +kernel
  omega
theorem atI_map {ns : List Int} {k : Int} (h : 0 ≤ k) (h' : k < ns.length) : ∃ c, L2.atI (ns.map PV.int) k = some (.int c) := by
  rw [atI_nonneg h]
  refine ⟨ns[k.toNat]'(by omega), ?_⟩
  simp
theorem sCell {n : Nat} {ob : List Ob} {ns : List Int} {k : Int} (h0 : 0 ≤ k) (h1 : k ≤ 100) : ∃ c, callF D (n + 1) 9 [.lst (ns.map .int), .int k] ob = .ok (.int c) false .non ob := by
  rw [c9]; simp only [def9]
  walk_at "ev"
  by_cases h : k < (ns.map PV.int).length
  · simp only [h, decide_true]
    walk_at "ev"
    obtain ⟨c, hc⟩ := atI_map (ns := ns) h0 (by simpa using h)
    rw [hc]; walk_at "ev"
    exact ⟨_, rfl⟩
  · simp only [h, decide_false]
    walk_at "ev"
    by_cases hn : ns = []
    · subst hn
      simp only [List.map_nil]
      walk_at "ev"
      rw [opMul (p400 (by decide) (by decide)) (p400 (by omega) (by omega))]
      walk_at "ev"
      exact ⟨_, rfl⟩
    · have hl : 0 < ns.length := List.length_pos_iff.mpr hn
      have : (((ns.map PV.int).length : Int) == 0) = false := by simp; exact hn
      rw [this]
      walk_at "ev"
      rw [opMod (by simp; omega)]
      walk_at "ev"
      obtain ⟨c, hc⟩ := atI_map (ns := ns) (k := k % ((ns.map PV.int).length : Int)) (Int.emod_nonneg _ (by simp; omega)) (by
        have := Int.emod_lt_of_pos k (b := ((ns.map PV.int).length : Int)) (by simp; omega)
        simpa using this)
      rw [hc]; walk_at "ev"
      rw [opMod (by decide)]
      walk_at "ev"
      rw [opMul (p400 (by decide) (by decide)) (p400 (by omega) (by omega))]
      walk_at "ev"
      exact ⟨_, rfl⟩
theorem mul_bd {a b A B : Int} (h : 0 ≤ a ∧ a ≤ A) (h' : 0 ≤ b ∧ b ≤ B) : 0 ≤ a * b ∧ a * b ≤ A * B := ⟨Int.mul_nonneg h.1 h'.1, Int.mul_le_mul h.2 h'.2 h'.1 (by omega)⟩
def prims : List PV := [.int 2147483647, .int 2147483629, .int 2147483587, .int 2147483579, .int 2147483563, .int 2147483549, .int 2147483543, .int 2147483497]
theorem prm {i : Int} (h : 0 ≤ i) (h' : i < 8) : ∃ p, L2.atI prims i = some (.int p) ∧ 0 < p ∧ p ≤ 2147483647 := by
  rw [atI_nonneg h]
  have : i.toNat < 8 := by omega
  match i.toNat, this with
  | 0, _ => exact ⟨_, rfl, by decide, by decide⟩
  | 1, _ => exact ⟨_, rfl, by decide, by decide⟩
  | 2, _ => exact ⟨_, rfl, by decide, by decide⟩
  | 3, _ => exact ⟨_, rfl, by decide, by decide⟩
  | 4, _ => exact ⟨_, rfl, by decide, by decide⟩
  | 5, _ => exact ⟨_, rfl, by decide, by decide⟩
  | 6, _ => exact ⟨_, rfl, by decide, by decide⟩
  | 7, _ => exact ⟨_, rfl, by decide, by decide⟩
  | k + 8, h => exact absurd h (by omega)
theorem emod_bd {a p : Int} (h : 0 < p) (h' : p ≤ 2147483647) : 0 ≤ a % p ∧ a % p ≤ 2147483647 := by
  have := Int.emod_nonneg a (show p ≠ 0 by omega)
  have := Int.emod_lt_of_pos a h
  omega
def body11 : Qv.St := match def10.body with
  | .seq _ (.seq _ (.seq _ (.seq _ (.seq _ (.seq (.fr _ _ b) _))))) => b
  | _ => .skip
def e11 (ns : List Int) (k : Int) (c r : Int) (bs : List Int) (x8 x9 : Qv.Slot) (ob : List Ob) : Sta := ⟨[.fr (.lst (ns.map .int)), .fr (.int k), .fr (.int 150), .fr (.int 27720), .fr (.tup prims), .fr (.int c), .fr (.int r), .own (.lst (bs.map .int)), x8, x9], ob⟩
theorem appV_ok {xs : List PV} {v : PV} (h : xs.length ≤ 16000000) : appV (.lst xs) v = some (.lst (xs ++ [v])) := by
  simp only [appV, lenOk_le h, if_true]
theorem turn11 {n : Nat} {ob : List Ob} {ns bs : List Int} {k c r j : Int} {x8 x9 : Qv.Slot} (hk : 0 ≤ k ∧ k ≤ 100) (hj : 0 ≤ j ∧ j ≤ 150) (hb : bs.length ≤ 150) :
    ∃ m r' q, turnR (setTg (.nm 8)) (dS (callF D n) body11) (.int j) (e11 ns k c r bs x8 x9 ob) = .ok .nx (e11 ns k c r' (bs ++ [m]) (.fr (.int j)) (.fr (.int q)) ob) := by
  simp only [body11, def10, e11]
  walk_at "ev"
  rw [opMod (by decide)]
  walk_at "ev"
  have m8 : ∀ a : Int, 0 ≤ a % 8 ∧ a % 8 < 8 := fun a => by omega
  obtain ⟨p1, e1, g1, g1'⟩ := prm (m8 j).1 (m8 j).2
  rw [e1]; walk_at "ev"
  rw [opMod g1]; walk_at "ev"
  rw [opMul (p400 (by decide) (by decide)) (p400 (by omega) (by omega))]; walk_at "ev"
  have j2 := mul_bd (show 0 ≤ 2 * j ∧ 2 * j ≤ 300 by omega) hj
  rw [opMul (p400 (by omega) (by omega)) (p400 (by omega) (by omega))]; walk_at "ev"
  have c1 := emod_bd (a := c) g1 g1'
  rw [opMul (p400 (by omega) (by omega)) (p400 (by omega) (by omega))]; walk_at "ev"
  have t1 := mul_bd c1 (show 0 ≤ 48271 + 2 * j * j ∧ 48271 + 2 * j * j ≤ 200000 by omega)
  rw [opMul (p400 (by omega) (by omega)) (p400 (by omega) (by omega))]; walk_at "ev"
  have j3 := mul_bd (show 0 ≤ 7919 * (j + 1) ∧ 7919 * (j + 1) ≤ 10000000 by omega) (show 0 ≤ j + 1 ∧ j + 1 ≤ 151 by omega)
  rw [opMul (p400 (by omega) (by omega)) (p400 (by omega) (by omega))]; walk_at "ev"
  rw [opMul (p400 (by omega) (by omega)) (p400 (by omega) (by omega))]; walk_at "ev"
  rw [opMul (p400 (by omega) (by omega)) (p400 (by omega) (by omega))]; walk_at "ev"
  rw [opMod (by decide)]; walk_at "ev"
  obtain ⟨p2, e2, g2, g2'⟩ := prm (m8 (3 * j + k)).1 (m8 (3 * j + k)).2
  rw [e2]; walk_at "ev"
  rw [opMod g2]; walk_at "ev"
  have c2 := emod_bd (a := c % p1 * (48271 + 2 * j * j) + 7919 * (j + 1) * (j + 1) + 104729 * k) g2 g2'
  generalize (c % p1 * (48271 + 2 * j * j) + 7919 * (j + 1) * (j + 1) + 104729 * k) % p2 = m2 at c2 ⊢
  have c3 := mul_bd c2 c2
  have c4 := mul_bd c3 c2
  rw [opMul (p400 (by omega) (by omega)) (p400 (by omega) (by omega))]; walk_at "ev"
  rw [opMul (p400 (by omega) (by omega)) (p400 (by omega) (by omega))]; walk_at "ev"
  rw [opMod (by decide)]; walk_at "ev"
  obtain ⟨p3, e3, g3, g3'⟩ := prm (m8 (j + 5)).1 (m8 (j + 5)).2
  rw [e3]; walk_at "ev"
  rw [opMod g3]; walk_at "ev"
  have hl : (bs.map PV.int).length ≤ 16000000 := by simp; omega
  cases decide (0 < r) <;> walk_at "ev"
  all_goals
    rw [opMod (by decide)]; walk_at "ev"
    rw [appV_ok hl]; walk_at "ev"
    rw [opFdv (by decide) (p400 (by decide) (by decide))]; walk_at "ev"
    exact ⟨_, _, _, by simp only [List.map_append, List.map_cons, List.map_nil]; rfl⟩
theorem sDraws {n : Nat} {ob : List Ob} {ns : List Int} {k : Int} (hk : 0 ≤ k ∧ k ≤ 100) : ∃ bs : List Int, callF D (n + 2) 10 [.lst (ns.map .int), .int k, .int 150, .int 27720] ob = .ok (.lst (bs.map .int)) true .non ob ∧ bs.length = 150 := by
  rw [c10]; simp only [def10]
  walk_at "ev"
  obtain ⟨c, hc⟩ := sCell (n := n) (ob := ob) (ns := ns) hk.1 hk.2
  rw [hc]; walk_at "ev"
  have e18 : opBin .pow (.int 10) (.int 18) = some (.fr (.int (10 ^ 18))) := rfl
  rw [e18]; walk_at "ev"
  have fin : ∀ r : Int, ∃ s', forR (callF D (n + 1)) (.nm 8) body11 (rngP 0 150) (e11 ns k c r [] .no .no ob) = .ok .nx s' ∧ ∃ r' bs x8 x9, s' = e11 ns k c r' bs x8 x9 ob ∧ bs.length = 150 := fun r => by
    obtain ⟨s', e, r', bs, x8, x9, e', hl, _⟩ := forGo_nx (g := setTg (.nm 8)) (b := dS (callF D (n + 1)) body11)
      (fun vs s => ∃ r bs x8 x9, s = e11 ns k c r bs x8 x9 ob ∧ bs.length + vs.length = 150 ∧ ∀ v ∈ vs, ∃ j : Int, v = .int j ∧ 0 ≤ j ∧ j < 150)
      (by
        rintro v vs s ⟨r, bs, x8, x9, rfl, hl, hv⟩
        obtain ⟨j, rfl, j0, j1⟩ := hv v (by simp)
        simp only [List.length_cons] at hl
        obtain ⟨m, r', q, e⟩ := turn11 (n := n + 1) (ob := ob) (ns := ns) (bs := bs) (c := c) (r := r) (x8 := x8) (x9 := x9) hk (j := j) ⟨j0, by omega⟩ (by omega)
        exact ⟨_, e, _, _, _, _, rfl, by simp; omega, fun x hx => hv x (by simp [hx])⟩)
      (rngP 0 150) (e11 ns k c r [] .no .no ob) ⟨_, _, _, _, rfl, by rw [len_rngP]; rfl, fun v hv => mem_rngP hv⟩
    exact ⟨s', e, r', bs, x8, x9, e', by simpa using hl⟩
  cases decide ((10 ^ 18 : Int) ≤ c) <;> walk_at "ev" <;> rw [rng1_ok (by decide) (by decide)] <;> walk_at "ev"
  · obtain ⟨s', e, r', bs, x8, x9, rfl, hl⟩ := fin 0
    simp only [body11, def10, e11, List.map_nil, prims] at e
    rw [e]; walk_at "ev"
    exact ⟨bs, rfl, hl⟩
  · obtain ⟨s', e, r', bs, x8, x9, rfl, hl⟩ := fin c
    simp only [body11, def10, e11, List.map_nil, prims] at e
    rw [e]; walk_at "ev"
    exact ⟨bs, rfl, hl⟩
theorem sBag {n : Nat} {ob : List Ob} {ns : List Int} {k : Int} (hk : 0 ≤ k ∧ k ≤ 100) : ∃ bs : List Int, callF D (n + 3) 11 [.lst (ns.map .int), .int k] ob = .ok (.lst (bs.map .int)) true .non ob := by
  rw [c11]; simp only [def11]
  walk_at "ev"
  obtain ⟨bs, e, _⟩ := sDraws (n := n) (ob := ob) (ns := ns) hk
  rw [e]; walk_at "ev"
  exact ⟨bs, rfl⟩
/-- a bag -/
abbrev bagP (bs : List Int) : PV := .lst (bs.map .int)
theorem bag_pl (bs : List Int) : ∀ x ∈ bs.map PV.int, PL bs.length 0 x := by
  intro x hx; obtain ⟨i, _, rfl⟩ := List.mem_map.mp hx; exact .int
theorem sTake {n : Nat} {ob : List Ob} (bs : List Int) {m : Int} (hm : 0 < m) : ∃ r bs', callF D (n + 1) 12 [bagP bs, .int m] ob = .ok (.int r) false (bagP bs') ob ∧ 0 ≤ r ∧ r < m := by
  unfold bagP
  rw [c12]; simp only [def12]
  walk_at "ev"
  rw [pyEq_nil (bag_pl bs) (by simp) (by decide)]
  walk_at "ev"
  cases bs with
  | nil =>
    simp only [List.map_nil, List.isEmpty_nil]
    walk_at "ev"
    rw [opMod hm]; walk_at "ev"
    exact ⟨_, [], rfl, Int.emod_nonneg _ (by omega), Int.emod_lt_of_pos _ hm⟩
  | cons b bs =>
    simp only [List.map_cons, List.isEmpty_cons]
    walk_at "ev"
    rw [opMod hm]; walk_at "ev"
    exact ⟨_, bs, rfl, Int.emod_nonneg _ (by omega), Int.emod_lt_of_pos _ hm⟩
theorem sChoice {n : Nat} {ob : List Ob} (bs : List Int) {xs : List PV} (hx : 0 < xs.length) : ∃ x bs', callF D (n + 2) 13 [bagP bs, .lst xs] ob = .ok x false (bagP bs') ob ∧ x ∈ xs := by
  rw [c13]; simp only [def13]
  walk_at "ev"
  obtain ⟨r, bs', e, r0, r1⟩ := sTake (n := n) (ob := ob) bs (m := xs.length) (by omega)
  rw [e]; walk_at "ev"
  rw [atI_nonneg r0]
  have : xs[r.toNat]? = some (xs[r.toNat]'(by omega)) := List.getElem?_eq_getElem _
  rw [this]; walk_at "ev"
  exact ⟨_, bs', rfl, List.getElem_mem _⟩
/-- deeds -/
inductive Dd where
  | push (w : Nat) (m : Int) | turn (w : Nat) (m : Int) | zero (w : Nat)
def Dd.enc : Dd → PV
  | .push w m => .tup [.str "push", .int w, .int m]
  | .turn w m => .tup [.str "turn", .int w, .int m]
  | .zero w => .tup [.str "zero", .int w]
def Dd.good (W : Nat) : Dd → Prop
  | .push w m => w < W ∧ -9 ≤ m ∧ m ≤ 9 ∧ m ≠ 0
  | .turn w m => w < W ∧ -9 ≤ m ∧ m ≤ 9 ∧ m ≠ 0
  | .zero w => w < W
def encS (W : Nat) (ds : List Dd) : PV := .tup [.int W, .tup (ds.map Dd.enc)]
structure Scr (W : Nat) (ds : List Dd) (most : Nat) (wm : Nat) : Prop where
  w1 : 1 ≤ W
  w3 : W ≤ wm
  len : ds.length ≤ most
  ok : ∀ d ∈ ds, d.good W
def body15 : Qv.St := match def14.body with
  | .seq _ (.seq _ (.seq (.fr _ _ b) _)) => b
  | _ => .skip
theorem setV2 {s : Sta} {i j : Nat} {a b : PV} : setVs [i, j] [.fr a, .fr b] s = .ok () ((s.put i (.fr a)).put j (.fr b)) := rfl
theorem turn15 {n : Nat} {ob : List Ob} {bs : List Int} {W : Nat} {ds : List Dd} {a1 x4 x5 x6 x7 : Qv.Slot} (v : PV) (hW : 1 ≤ W) (hl : ds.length ≤ 1000) (hd : ∀ d ∈ ds, d.good W) :
    ∃ bs' d y5 y6 y7, turnR (setTg (.nm 4)) (dS (callF D (n + 2)) body15) v ⟨[.own (bagP bs), a1, .fr (.int W), .own (.lst (ds.map Dd.enc)), x4, x5, x6, x7], ob⟩ = .ok .nx ⟨[.own (bagP bs'), a1, .fr (.int W), .own (.lst ((ds ++ [d]).map Dd.enc)), .fr v, y5, y6, y7], ob⟩ ∧ Dd.good W d := by
  simp only [body15, def14]
  walk_at "ev"
  obtain ⟨r, bs1, e, r0, r1⟩ := sTake (n := n + 1) (ob := ob) bs (m := W) (by omega)
  rw [e]; walk_at "ev"
  obtain ⟨x, bs2, e, hx⟩ := sChoice (n := n) (ob := ob) bs1 (xs := [.int 0, .int 0, .int 1, .int 2, .int 4, .int 8]) (by simp)
  rw [e]
  obtain ⟨q, rfl, q0, q1⟩ : ∃ q : Int, x = .int q ∧ 0 ≤ q ∧ q ≤ 8 := by
    simp at hx; rcases hx with rfl | rfl | rfl | rfl | rfl <;> exact ⟨_, rfl, by decide, by decide⟩
  walk_at "ev"
  obtain ⟨t, bs3, e, t0, t1⟩ := sTake (n := n + 1) (ob := ob) bs2 (m := 2) (by omega)
  rw [e]; walk_at "ev"
  have hm : ∀ b : Bool, ∃ m : Int, ifR b (dS (callF D (n + 2)) (.seq (.asg 6 (.neg (.var 6))) .skip)) (dS (callF D (n + 2)) .skip) ⟨[.own (bagP bs3), a1, .fr (.int W), .own (.lst (ds.map Dd.enc)), .fr v, .fr (.int r), .fr (.int (1 + q)), x7], ob⟩ = .ok .nx ⟨[.own (bagP bs3), a1, .fr (.int W), .own (.lst (ds.map Dd.enc)), .fr v, .fr (.int r), .fr (.int m), x7], ob⟩ ∧ -9 ≤ m ∧ m ≤ 9 ∧ m ≠ 0 := by
    intro b
    cases b <;> walk_at "ev"
    · exact ⟨_, rfl, by omega, by omega, by omega⟩
    · exact ⟨_, rfl, by omega, by omega, by omega⟩
  obtain ⟨m, em, m0, m1, m2⟩ := hm (t == 0)
  rw [em]; walk_at "ev"
  obtain ⟨x, bs4, e, hx⟩ := sChoice (n := n) (ob := ob) bs3 (xs := [.str "push", .str "push", .str "push", .str "turn", .str "zero"]) (by simp)
  rw [e]; walk_at "ev"
  have hl' : (ds.map Dd.enc).length ≤ 16000000 := by simp; omega
  have hW' : r.toNat < W := by omega
  have er : ((r.toNat : Nat) : Int) = r := by omega
  simp only [List.mem_cons, List.not_mem_nil, or_false] at hx
  rcases hx with rfl | rfl | rfl | rfl | rfl
  · rw [pyEq_ss ok_push ok_zero, push_ne_zero]; walk_at "ev"
    rw [appV_ok hl']; walk_at "ev"
    exact ⟨_, .push r.toNat m, _, _, _, by simp only [List.map_append, List.map_cons, List.map_nil, Dd.enc, er]; rfl, hW', m0, m1, m2⟩
  · rw [pyEq_ss ok_push ok_zero, push_ne_zero]; walk_at "ev"
    rw [appV_ok hl']; walk_at "ev"
    exact ⟨_, .push r.toNat m, _, _, _, by simp only [List.map_append, List.map_cons, List.map_nil, Dd.enc, er]; rfl, hW', m0, m1, m2⟩
  · rw [pyEq_ss ok_push ok_zero, push_ne_zero]; walk_at "ev"
    rw [appV_ok hl']; walk_at "ev"
    exact ⟨_, .push r.toNat m, _, _, _, by simp only [List.map_append, List.map_cons, List.map_nil, Dd.enc, er]; rfl, hW', m0, m1, m2⟩
  · rw [pyEq_ss ok_turn ok_zero, turn_ne_zero]; walk_at "ev"
    rw [appV_ok hl']; walk_at "ev"
    exact ⟨_, .turn r.toNat m, _, _, _, by simp only [List.map_append, List.map_cons, List.map_nil, Dd.enc, er]; rfl, hW', m0, m1, m2⟩
  · rw [pyEq_ss ok_zero ok_zero, beq_self_eq_true]; walk_at "ev"
    rw [appV_ok hl']; walk_at "ev"
    exact ⟨_, .zero r.toNat, _, _, _, by simp only [List.map_append, List.map_cons, List.map_nil, Dd.enc, er]; rfl, hW'⟩
theorem sLawScript {n : Nat} {ob : List Ob} (bs : List Int) {most wm : Nat} (hm : most ≤ 100) (hw : 1 ≤ wm) : ∃ bs' W ds, callF D (n + 3) 14 [bagP bs, .int most, .int wm] ob = .ok (encS W ds) false (bagP bs') ob ∧ Scr W ds most wm := by
  rw [c14]; simp only [def14]
  walk_at "ev"
  obtain ⟨r, bs1, e, r0, r1⟩ := sTake (n := n + 1) (ob := ob) bs (m := wm) (by omega)
  rw [e]; walk_at "ev"
  obtain ⟨t, bs2, e, t0, t1⟩ := sTake (n := n + 1) (ob := ob) bs1 (m := (most : Int) + 1) (by omega)
  rw [e]; walk_at "ev"
  rw [rng1_ok (by omega) (by omega)]; walk_at "ev"
  obtain ⟨W, hW⟩ : ∃ W : Nat, (W : Int) = 1 + r := ⟨(1 + r).toNat, by omega⟩
  rw [← hW]
  obtain ⟨s', e, bs', ds, x4, x5, x6, x7, rfl, hl, hg⟩ := forGo_nx (g := setTg (.nm 4)) (b := dS (callF D (n + 2)) body15)
    (fun vs s => ∃ bs ds x4 x5 x6 x7, s = ⟨[.own (bagP bs), .fr (.int most), .fr (.int W), .own (.lst (ds.map Dd.enc)), x4, x5, x6, x7], ob⟩ ∧ ds.length + vs.length ≤ most ∧ ∀ d ∈ ds, Dd.good W d)
    (by
      rintro v vs s ⟨bs, ds, x4, x5, x6, x7, rfl, hl, hd⟩
      simp only [List.length_cons] at hl
      obtain ⟨bs', d, x5, x6, x7, e, g⟩ := turn15 (n := n) (ob := ob) (bs := bs) (W := W) (ds := ds) (a1 := .fr (.int most)) (x4 := x4) (x5 := x5) (x6 := x6) (x7 := x7) v (by omega) (by omega) hd
      refine ⟨_, e, bs', ds ++ [d], _, _, _, _, rfl, by simp; omega, ?_⟩
      intro d' hd'
      rcases List.mem_append.mp hd' with h | h
      · exact hd _ h
      · simp at h; subst h; exact g)
    (rngP 0 t) ⟨[.own (bagP bs2), .fr (.int most), .fr (.int W), .own (.lst []), .no, .no, .no, .no], ob⟩ ⟨_, [], _, _, _, _, rfl, by rw [len_rngP]; simp; omega, by simp⟩
  unfold forR
  simp only [body15, def14] at e
  rw [e]; walk_at "ev"
  exact ⟨bs', W, ds, rfl, by omega, by omega, by simpa using hl, hg⟩
/-- a start as drawn -/
def encL (xs : List Int) : PV := .tup (xs.map .int)
def fitsL (b : Int) (xs : List Int) : Prop := ∀ x ∈ xs, 0 ≤ x ∧ x < b
/-- a push, from a wheel on -/
def goP (b : Int) : List Int → Int → List Int × List Int
  | [], _ => ([], [])
  | x :: xs, m => ((x + m) % b :: (goP b xs ((x + m) / b)).1, (x + m) / b :: (goP b xs ((x + m) / b)).2)
def doDeed (b : Int) (xs : List Int) : Dd → List Int × List Int
  | .zero w => (xs.set w 0, List.replicate xs.length 0)
  | .turn w m => (xs.set w ((xs.getD w 0 + m) % b), List.replicate xs.length 0)
  | .push w m => (xs.take w ++ (goP b (xs.drop w) m).1, List.replicate w 0 ++ (goP b (xs.drop w) m).2)
def runD (b : Int) : List Int → List Dd → List Int × List (List Int)
  | xs, [] => (xs, [])
  | xs, d :: ds => ((runD b (doDeed b xs d).1 ds).1, (doDeed b xs d).2 :: (runD b (doDeed b xs d).1 ds).2)
theorem carry_bd {x m b : Int} (hb : 2 ≤ b) (hx : 0 ≤ x ∧ x < b) (hm : -9 ≤ m ∧ m ≤ 9) : -9 ≤ (x + m) / b ∧ (x + m) / b ≤ 9 := by
  have h1 := Int.mul_ediv_add_emod (x + m) b
  have h2 := Int.emod_nonneg (x + m) (show b ≠ 0 by omega)
  have h3 := Int.emod_lt_of_pos (x + m) (show 0 < b by omega)
  generalize (x + m) / b = q at *
  constructor
  · apply Int.not_lt.mp; intro h
    have := Int.mul_le_mul_of_nonneg_left (show q ≤ -10 by omega) (show 0 ≤ b by omega)
    omega
  · apply Int.not_lt.mp; intro h
    have := Int.mul_le_mul_of_nonneg_left (show (10 : Int) ≤ q by omega) (show 0 ≤ b by omega)
    omega
theorem goP_ok {b : Int} (hb : 2 ≤ b) : ∀ (xs : List Int) (m : Int), fitsL b xs → -9 ≤ m ∧ m ≤ 9 → (goP b xs m).1.length = xs.length ∧ (goP b xs m).2.length = xs.length ∧ fitsL b (goP b xs m).1 ∧ ∀ e ∈ (goP b xs m).2, -9 ≤ e ∧ e ≤ 9
  | [], m, _, _ => ⟨rfl, rfl, by simp [goP, fitsL], by simp [goP]⟩
  | x :: xs, m, hf, hm => by
    have c := carry_bd hb (hf x (by simp)) hm
    obtain ⟨a1, a2, a3, a4⟩ := goP_ok hb xs ((x + m) / b) (fun y hy => hf y (by simp [hy])) c
    refine ⟨by simp [goP, a1], by simp [goP, a2], ?_, ?_⟩
    · intro y hy
      simp only [goP, List.mem_cons] at hy
      rcases hy with rfl | hy
      · exact ⟨Int.emod_nonneg _ (by omega), Int.emod_lt_of_pos _ (by omega)⟩
      · exact a3 y hy
    · intro y hy
      simp only [goP, List.mem_cons] at hy
      rcases hy with rfl | hy
      · exact c
      · exact a4 y hy
theorem fits_set {b : Int} {xs : List Int} {w : Nat} {y : Int} (h : fitsL b xs) (hy : 0 ≤ y ∧ y < b) : fitsL b (xs.set w y) := by
  intro x hx
  rcases List.mem_or_eq_of_mem_set hx with h' | rfl
  · exact h x h'
  · exact hy
theorem doDeed_ok {b : Int} (hb : 2 ≤ b) {xs : List Int} {d : Dd} (hf : fitsL b xs) (hd : d.good xs.length) : (doDeed b xs d).1.length = xs.length ∧ (doDeed b xs d).2.length = xs.length ∧ fitsL b (doDeed b xs d).1 ∧ ∀ e ∈ (doDeed b xs d).2, -9 ≤ e ∧ e ≤ 9 := by
  have rep : ∀ k : Nat, ∀ e ∈ List.replicate k (0 : Int), -9 ≤ e ∧ e ≤ 9 := fun k e he => by rw [List.eq_of_mem_replicate he]; decide
  cases d with
  | zero w => exact ⟨by simp [doDeed], by simp [doDeed], fits_set hf ⟨by omega, by omega⟩, rep _⟩
  | turn w m => exact ⟨by simp [doDeed], by simp [doDeed], fits_set hf ⟨Int.emod_nonneg _ (by omega), Int.emod_lt_of_pos _ (by omega)⟩, rep _⟩
  | push w m =>
    obtain ⟨hw, m0, m1, _⟩ := hd
    obtain ⟨a1, a2, a3, a4⟩ := goP_ok hb (xs.drop w) m (fun y hy => hf y (List.mem_of_mem_drop hy)) ⟨m0, m1⟩
    refine ⟨by simp [doDeed, a1]; omega, by simp [doDeed, a2]; omega, ?_, ?_⟩
    · intro y hy
      simp only [doDeed, List.mem_append] at hy
      rcases hy with hy | hy
      · exact hf y (List.mem_of_mem_take hy)
      · exact a3 y hy
    · intro y hy
      simp only [doDeed, List.mem_append] at hy
      rcases hy with hy | hy
      · exact rep _ y hy
      · exact a4 y hy
theorem runD_ok {b : Int} (hb : 2 ≤ b) {W : Nat} : ∀ (ds : List Dd) (xs : List Int), xs.length = W → fitsL b xs → (∀ d ∈ ds, d.good W) →
    (runD b xs ds).1.length = W ∧ fitsL b (runD b xs ds).1 ∧ (runD b xs ds).2.length = ds.length ∧ ∀ e ∈ (runD b xs ds).2, e.length = W ∧ ∀ x ∈ e, -9 ≤ x ∧ x ≤ 9
  | [], xs, hl, hf, _ => ⟨hl, hf, rfl, by simp [runD]⟩
  | d :: ds, xs, hl, hf, hd => by
    obtain ⟨a1, a2, a3, a4⟩ := doDeed_ok hb hf (d := d) (by rw [hl]; exact hd d (by simp))
    obtain ⟨b1, b2, b3, b4⟩ := runD_ok hb ds (doDeed b xs d).1 (by omega) a3 (fun d hd' => hd d (by simp [hd']))
    refine ⟨b1, b2, by simp [runD, b3], ?_⟩
    intro e he
    simp only [runD, List.mem_cons] at he
    rcases he with rfl | he
    · exact ⟨by omega, a4⟩
    · exact b4 e he
theorem mapget {xs : List Int} {w : Nat} (h : w < xs.length) : L2.atI (xs.map PV.int) (w : Int) = some (.int (xs.getD w 0)) := by
  rw [atI_nat]; simp [h]
theorem bd900 {x m b : Int} (hb : 2 ≤ b) (hx : 0 ≤ x ∧ x < b) (hm : -9 ≤ m ∧ m ≤ 9) : x + m < 900 * b ∧ -(900 * b) ≤ x + m := by omega
theorem getD_fits {b : Int} {xs : List Int} {w : Nat} (hf : fitsL b xs) (h : w < xs.length) : 0 ≤ xs.getD w 0 ∧ xs.getD w 0 < b := by
  have : xs.getD w 0 = xs[w] := by simp [h]
  rw [this]; exact hf _ (List.getElem_mem h)
theorem rep_flat (k : Nat) : List.replicate k (PV.int 0) = (List.replicate k (0 : Int)).map .int := by simp
theorem push_ne_turn : (("push" : Str) == ("turn" : Str)) = false := by decide +kernel
theorem setIx_map {fs : List Int} {w : Nat} {y : Int} (h : w < fs.length) : setIx (.lst (fs.map .int)) (.int w) (.int y) = some (.lst ((fs.set w y).map .int)) := by
  rw [setIx_ok (by omega) (by simp; omega)]; simp
theorem take_set {y : Int} : ∀ {fs : List Int} {i : Nat}, i < fs.length → (fs.set i y).take (i + 1) = fs.take i ++ [y]
  | [], i, h => absurd h (by simp)
  | x :: fs, 0, h => by simp
  | x :: fs, i + 1, h => by simp only [List.set_cons_succ, List.take_succ_cons, List.cons_append]; rw [take_set (by simpa using h)]
/-- the names of the classes that are raised -/
def nmC (c : Nat) : Str := if c = 0 then "script" else "text"
theorem sNamed0 {n : Nat} {ob : List Ob} : callF D (n + 1) 15 [.exn 0] ob = .ok (.str "script") false .non ob := by kernel_rfl
theorem sNamed1 {n : Nat} {ob : List Ob} : callF D (n + 1) 15 [.exn 1] ob = .ok (.str "text") false .non ob := by kernel_rfl
theorem sNamed {n c : Nat} {ob : List Ob} (hc : c < 2) : callF D (n + 1) 15 [.exn c] ob = .ok (.str (nmC c)) false .non ob := by
  match c, hc with
  | 0, _ => exact sNamed0
  | 1, _ => exact sNamed1
theorem mem_cut {xs : List PV} {lo hi : Option Int} {x : PV} (h : x ∈ cutP xs lo hi) : x ∈ xs := List.mem_of_mem_drop (List.mem_of_mem_take h)
theorem len_cut {xs : List PV} {lo hi : Option Int} : (cutP xs lo hi).length ≤ xs.length := by
  unfold cutP; simp; omega
theorem cut_hi {xs : List PV} {k : Int} (h : 0 ≤ k) (h' : k ≤ xs.length) : (cutP xs none (some k)).length ≤ k.toNat := by
  unfold cutP
  have e1 : HT.sIx xs.length xs.length (some k) = k.toNat := by
    show (if k < 0 then _ else _) = _
    rw [if_neg (by omega)]; omega
  rw [e1, HT.sIx_none]; simp; omega
theorem cut_lo {xs : List PV} {k : Int} (h : 0 ≤ k) (h' : k ≤ xs.length) : (cutP xs (some k) none).length ≤ xs.length - k.toNat := by
  unfold cutP
  have e1 : HT.sIx xs.length 0 (some k) = k.toNat := by
    show (if k < 0 then _ else _) = _
    rw [if_neg (by omega)]; omega
  rw [e1, HT.sIx_none]; simp
theorem cut_last {xs : List PV} : (cutP xs (some (-1)) none).length ≤ 1 := by
  unfold cutP; simp [HT.sIx]; omega
theorem ok_1 : PyData.strOk "1" = true := by decide +kernel
theorem ok_Push : PyData.strOk "Push" = true := by decide +kernel
theorem ok_e : PyData.strOk "" = true := by decide +kernel
theorem pick {xs : List PV} {k : Int} (h : 0 ≤ k) (h' : k < xs.length) : ∃ x, L2.atI xs k = some x ∧ x ∈ xs := by
  rw [atI_nonneg h]
  exact ⟨_, List.getElem?_eq_getElem (by omega), List.getElem_mem _⟩
theorem goodDeed_enc {W : Nat} {d : Dd} (h : d.good W) : goodDeed W d.enc = true := by
  cases d with
  | zero w => simp only [Dd.enc, goodDeed, isW, beq_self_eq_true, Bool.and_true]; simp [Dd.good] at h; simp; omega
  | turn w m =>
    obtain ⟨h1, h2, h3, h4⟩ := h
    have e : (m == 0) = false := by simp [h4]
    simp only [Dd.enc, goodDeed, isW, beq_self_eq_true, Bool.or_true, Bool.true_and, eqP_ii, e]
    simp; omega
  | push w m =>
    obtain ⟨h1, h2, h3, h4⟩ := h
    have e : (m == 0) = false := by simp [h4]
    simp only [Dd.enc, goodDeed, isW, beq_self_eq_true, Bool.true_or, Bool.true_and, eqP_ii, e]
    simp; omega
theorem goodScript_enc {W : Nat} {ds : List Dd} (h : Scr W ds 4 3) : goodScript (encS W ds) = true := by
  have h1 := h.w1
  have h3 := h.w3
  have e : ((ds.map Dd.enc).all (goodDeed W)) = true := by
    rw [List.all_eq_true]; intro x hx
    obtain ⟨d, hd, rfl⟩ := List.mem_map.mp hx
    exact goodDeed_enc (h.ok d hd)
  have hl := h.len
  simp only [goodScript, encS, e, isW]
  simp; omega
theorem deed_pl (d : Dd) : PL 20 1 d.enc := by
  cases d
  · exact .tup (by simp) (by intro x hx; simp at hx; rcases hx with rfl | rfl | rfl; exact .str ok_push; exact .int; exact .int)
  · exact .tup (by simp) (by intro x hx; simp at hx; rcases hx with rfl | rfl | rfl; exact .str ok_turn; exact .int; exact .int)
  · exact .tup (by simp) (by intro x hx; simp at hx; rcases hx with rfl | rfl; exact .str ok_zero; exact .int)
theorem script_pl {W : Nat} {ds : List Dd} (h : ds.length ≤ 20) : PL 20 4 (encS W ds) := by
  refine .tup (by simp) fun x hx => ?_
  simp only [List.mem_cons, List.not_mem_nil, or_false] at hx
  rcases hx with rfl | rfl
  · exact .int
  · refine PL.mono (d := 2) (L := 20) (.tup (by simpa using h) fun y hy => ?_) (by omega) (by omega)
    obtain ⟨d, _, rfl⟩ := List.mem_map.mp hy
    exact deed_pl d
theorem row_pl {xs : List Int} (h : xs.length ≤ 20) : PL 20 1 (encL xs) := .tup (by simpa using h) fun y hy => by
  obtain ⟨d, _, rfl⟩ := List.mem_map.mp hy; exact .int
theorem word_pl {ws : List (List Int)} (h : ws.length ≤ 20) (h' : ∀ w ∈ ws, w.length ≤ 20) : PL 20 2 (.tup (ws.map encL)) := .tup (by simpa using h) fun y hy => by
  obtain ⟨d, hd, rfl⟩ := List.mem_map.mp hy; exact row_pl (h' d hd)
theorem rowsOf_enc {xs : List Int} {W lo hi : Int} (hl : (xs.length : Int) = W) (h : ∀ x ∈ xs, lo ≤ x ∧ x ≤ hi) : rowsOf (encL xs) W lo hi = true := by
  simp only [rowsOf, encL, List.length_map, hl, decide_true, Bool.true_and, List.all_eq_true]
  intro x hx
  obtain ⟨i, hi', rfl⟩ := List.mem_map.mp hx
  have := h i hi'
  simp only [isW]; simp; omega
theorem goodWord_enc {ws : List (List Int)} {W m : Int} (hl : (ws.length : Int) = m) (h : ∀ w ∈ ws, (w.length : Int) = W ∧ ∀ x ∈ w, -9 ≤ x ∧ x ≤ 9) : goodWord W m (.tup (ws.map encL)) = true := by
  simp only [goodWord, List.length_map, hl, decide_true, Bool.true_and, List.all_eq_true]
  intro x hx
  obtain ⟨i, hi', rfl⟩ := List.mem_map.mp hx
  exact rowsOf_enc (h i hi').1 (h i hi').2
def dropS : Nat → Qv.St → Qv.St
  | 0, s => s
  | n + 1, .seq _ b => dropS n b
  | _, s => s
def hdS : Qv.St → Qv.St
  | .seq a _ => a
  | s => s
def frB : Qv.St → Qv.St
  | .fr _ _ b => b
  | s => s
theorem pow30 : opBin .pow (.int 10) (.int 30) = some (.fr (.int 1000000000000000000000000000000)) := by kernel_rfl
theorem three_true : pyEq (.lst [.bl true, .bl true, .bl true]) (.lst (List.replicate (Int.toNat 3) (.bl true))) = some true := by kernel_rfl
theorem two_script : pyEq (.lst [.str (nmC 0), .str (nmC 0)]) (.lst (List.replicate (Int.toNat 2) (.str "script"))) = some true := by kernel_rfl
end K14.P
end
section
set_option Elab.async false
set_option linter.all false
set_option autoImplicit true
set_option maxRecDepth 100000
set_option maxHeartbeats 4000000
namespace K14.P
open PySem Qv
local macro_rules | `(tactic| walk_at "ev") => `(tactic| simp only [↓e_var, ↓e_cst, ↓k_e_bin4_eq, ↓k_e_bin3_eq, ↓k_e_bin2_eq, ↓k_e_bin1_eq, ↓e_bin, ↓k_e_neg2_eq, ↓k_e_neg1_eq, ↓e_neg, ↓condE_eq, ↓k_e_nt1_eq, ↓e_nt, ↓k_e_an2_eq, ↓k_e_an1_eq, ↓e_an, ↓k_e_orr2_eq, ↓k_e_orr1_eq, ↓e_orr, ↓k_e_ite1_eq, ↓e_ite, ↓k_e_tup1_eq, ↓e_tup, ↓k_e_lst1_eq, ↓e_lst, ↓k_e_cmp4_eq, ↓k_e_cmp3_eq, ↓k_e_cmp2_eq, ↓k_e_cmp1_eq, ↓e_cmp, ↓k_chnR_eq3_eq, ↓k_chnR_eq2_eq, ↓k_chnR_eq1_eq, ↓chnR_eq, ↓k_e_chn6_eq, ↓k_e_chn5_eq, ↓k_e_chn4_eq, ↓k_e_chn3_eq, ↓k_e_chn2_eq, ↓k_e_chn1_eq, ↓e_chn, ↓callR_eq, ↓k_e_call1_eq, ↓e_call, ↓callbR_eq, ↓k_e_callb3_eq, ↓k_e_callb2_eq, ↓k_e_callb1_eq, ↓e_callb, ↓callkR_eq, ↓k_e_callk2_eq, ↓k_e_callk1_eq, ↓e_callk, ↓callvA_eq, ↓k_e_callv1_eq, ↓e_callv, ↓k_e_bi1_eq, ↓e_bi, ↓k_e_callx2_eq, ↓k_e_callx1_eq, ↓e_callx, ↓k_e_tx5_eq, ↓k_e_tx4_eq, ↓k_e_tx3_eq, ↓k_e_tx2_eq, ↓k_e_tx1_eq, ↓e_tx, ↓k_e_ix4_eq, ↓k_e_ix3_eq, ↓k_e_ix2_eq, ↓k_e_ix1_eq, ↓e_ix, ↓k_e_sl4_eq, ↓k_e_sl3_eq, ↓k_e_sl2_eq, ↓k_e_sl1_eq, ↓e_sl, ↓k_e_fmt2_eq, ↓k_e_fmt1_eq, ↓e_fmt, ↓k_e_revt2_eq, ↓k_e_revt1_eq, ↓e_revt, ↓k_e_js1_eq, ↓e_js, ↓dj_nil', ↓k_dj_cons'3_eq, ↓k_dj_cons'2_eq, ↓k_dj_cons'1_eq, ↓dj_cons', ↓k_e_rev2_eq, ↓k_e_rev1_eq, ↓e_rev, ↓eltM_eq, ↓k_e_comp2_eq, ↓k_e_comp1_eq, ↓e_comp, ↓e_pop0, ↓a_nil', ↓k_a_cons'3_eq, ↓k_a_cons'2_eq, ↓k_a_cons'1_eq, ↓a_cons', ↓d_nil', ↓k_d_cons'3_eq, ↓k_d_cons'2_eq, ↓k_d_cons'1_eq, ↓d_cons', ↓v_nil', ↓k_v_cons'3_eq, ↓k_v_cons'2_eq, ↓k_v_cons'1_eq, ↓v_cons', ↓k_i_zip'4_eq, ↓k_i_zip'3_eq, ↓k_i_zip'2_eq, ↓k_i_zip'1_eq, ↓i_zip', ↓k_i_zipL'4_eq, ↓k_i_zipL'3_eq, ↓k_i_zipL'2_eq, ↓k_i_zipL'1_eq, ↓i_zipL', ↓k_i_rng1'1_eq, ↓i_rng1', ↓k_i_rng2'3_eq, ↓k_i_rng2'2_eq, ↓k_i_rng2'1_eq, ↓i_rng2', ↓k_i_enm'2_eq, ↓k_i_enm'1_eq, ↓i_enm', ↓k_i_seqI'2_eq, ↓k_i_seqI'1_eq, ↓i_seqI', ↓partO_var, ↓condB_var, ↓partO_cst, ↓condB_cst, ↓partO_bin, ↓condB_bin, ↓partO_neg, ↓condB_neg, ↓partO_ix, ↓condB_ix, ↓partO_bi, ↓condB_bi, ↓partO_call, ↓condB_call, ↓partO_callb, ↓condB_callb, ↓partO_cmp, ↓condB_cmp, ↓partO_nt, ↓condB_nt, ↓partO_an, ↓condB_an, ↓partO_orr, ↓condB_orr, ↓partO_callk, ↓condB_callk, ↓partO_ite, ↓condB_ite, ↓partO_chn, ↓condB_chn, ↓partO_pop0, ↓condB_pop0, ↓st_skip', ↓k_st_seq'1_eq, ↓st_seq', ↓k_st_asg'3_eq, ↓k_st_asg'2_eq, ↓k_st_asg'1_eq, ↓st_asg', ↓k_st_asgT'3_eq, ↓k_st_asgT'2_eq, ↓k_st_asgT'1_eq, ↓st_asgT', ↓k_st_asgP'2_eq, ↓k_st_asgP'1_eq, ↓st_asgP', ↓k_st_ixs'7_eq, ↓k_st_ixs'6_eq, ↓k_st_ixs'5_eq, ↓k_st_ixs'4_eq, ↓k_st_ixs'3_eq, ↓k_st_ixs'2_eq, ↓k_st_ixs'1_eq, ↓st_ixs', ↓k_st_app'5_eq, ↓k_st_app'4_eq, ↓k_st_app'3_eq, ↓k_st_app'2_eq, ↓k_st_app'1_eq, ↓st_app', ↓k_st_exp'1_eq, ↓st_exp', ↓k_st_ret'1_eq, ↓st_ret', ↓k_st_ifs'1_eq, ↓st_ifs', ↓k_st_fr'1_eq, ↓st_fr', ↓st_rais', ↓k_ixM_eq5_eq, ↓k_ixM_eq4_eq, ↓k_ixM_eq3_eq, ↓k_ixM_eq2_eq, ↓k_ixM_eq1_eq, ↓ixM_eq, ↓st_ix2', ntB_eq, blK_eq, callvR_fn, okL_eq, nxK_eq, putK_eq, frK_eq, setVsK_eq, setTgsK_eq, consK_eq, frzsK_eq, someK_eq, partK_eq, lk0, il0, lk1, il1, lk2, il2, lk3, il3, lk4, il4, lk5, il5, lk6, il6, lk7, il7, lk8, il8, lk9, il9, lk10, il10, lk11, il11, lk12, il12, lk13, il13, lk14, il14, lk15, il15, lk16, il16, R.bind_ok, R.bind_exc, R.bind_bad, slE_fr, slE_own, slD_fr, slD_own, slF_fr, slF_own, slW_own, slR_fr, deref_fr, deref_own, deref_sl, frz_fr, frz_own, frz_sl, ownAt_eq, frAt_eq, ofO_some, ofO_none, rvB_fr, rvI_fr, andG_t, andG_f, orG_t, orG_f, ifR_t, ifR_f, okM_eq, badM_eq, pop0S_cons, seqOf_lst, seqOf_tup, zipM_l, zipM_t, zipLM_l, enmM_l, asExn_x, asStr_s, frzs_nil, frzs_cons, partO_nil, condB_nil, settle_fr, settle_own, stB_t, stB_f, settle_sl, noSl_fr, noSl_own, noSl_sl, setV_fr, setV_own, setV_sl, setVs_nil, setVs_cons, setTg_nm, setTg_tp, setTgs_nil, setTgs_cons, putM_eq, raiseM_eq, thenS_nx, thenS_ret, toM_fr, toM_own, toM_exc, toMb_fr, toMb_own, keep_exc, obs_mk, env_mk, finB_f, finB_t, endB_nx, endB_fr, endB_own, endS_own, endS_fr, endB_slf, endB_slt, endB_exc, ix2G_2, ix2K_eq, wipe_nil, wipe_cons, Nat.beq, sA0, sA1, sA2, sA3, sA4, sA5, sA6, sA7, sA8, sA9, sA10, sA11, sA12, sA13, sA14, sA15, sA16, sA17, sA18, sA19, sP0, sP1, sP2, sP3, sP4, sP5, sP6, sP7, sP8, sP9, sP10, sP11, sP12, sP13, sP14, sP15, sP16, sP17, sP18, sP19, o0_, o1_, o2_, o3_, o4_, o5_, o6_, o7_, o8_, o9_, o10_, o11_, o12_, o13_, o14_, o15_, o16_, o17_, o18_, o19_, o20_, o21_, o22_, o23_, o24_, o25_, o26_, o27_, o28_, o29_, o30_, o31_, o32_, o33_, o34_, o35_, o36_, o37_, o38_, o39_, o40_, o41_, o42_, o43_, o44_, o45_, o46_, o47_, o48_, o49_, o50_, o51_, o52_, o53_, o54_, o55_, o56_, o57_, o58_, o59_, o60_, o61_, o62_, o63_, o64_, o65_, o66_, turnR_eq, turnK_eq, cT4_eq, cT3_eq, cT0_eq, cT2_eq, cT1_eq, cTurn_eq, forGo_nil, atI0, atI1, atI2, atI3, pyEq_ii, pyEq_bb, Int.reduceBEq, Int.reduceLT, Int.reduceLE, Int.reduceAdd, Int.reduceSub, Int.reduceNeg, Int.reduceMul, decide_true, decide_false, Bool.not_true, Bool.not_false, Bool.false_and, Bool.true_and, Bool.and_true, Bool.and_false, Bool.or_false, Bool.false_or, Bool.true_or, Bool.or_true])
local macro_rules | `(tactic| walk_at "ev?") => `(tactic| (try simp only [↓e_var, ↓e_cst, ↓k_e_bin4_eq, ↓k_e_bin3_eq, ↓k_e_bin2_eq, ↓k_e_bin1_eq, ↓e_bin, ↓k_e_neg2_eq, ↓k_e_neg1_eq, ↓e_neg, ↓condE_eq, ↓k_e_nt1_eq, ↓e_nt, ↓k_e_an2_eq, ↓k_e_an1_eq, ↓e_an, ↓k_e_orr2_eq, ↓k_e_orr1_eq, ↓e_orr, ↓k_e_ite1_eq, ↓e_ite, ↓k_e_tup1_eq, ↓e_tup, ↓k_e_lst1_eq, ↓e_lst, ↓k_e_cmp4_eq, ↓k_e_cmp3_eq, ↓k_e_cmp2_eq, ↓k_e_cmp1_eq, ↓e_cmp, ↓k_chnR_eq3_eq, ↓k_chnR_eq2_eq, ↓k_chnR_eq1_eq, ↓chnR_eq, ↓k_e_chn6_eq, ↓k_e_chn5_eq, ↓k_e_chn4_eq, ↓k_e_chn3_eq, ↓k_e_chn2_eq, ↓k_e_chn1_eq, ↓e_chn, ↓callR_eq, ↓k_e_call1_eq, ↓e_call, ↓callbR_eq, ↓k_e_callb3_eq, ↓k_e_callb2_eq, ↓k_e_callb1_eq, ↓e_callb, ↓callkR_eq, ↓k_e_callk2_eq, ↓k_e_callk1_eq, ↓e_callk, ↓callvA_eq, ↓k_e_callv1_eq, ↓e_callv, ↓k_e_bi1_eq, ↓e_bi, ↓k_e_callx2_eq, ↓k_e_callx1_eq, ↓e_callx, ↓k_e_tx5_eq, ↓k_e_tx4_eq, ↓k_e_tx3_eq, ↓k_e_tx2_eq, ↓k_e_tx1_eq, ↓e_tx, ↓k_e_ix4_eq, ↓k_e_ix3_eq, ↓k_e_ix2_eq, ↓k_e_ix1_eq, ↓e_ix, ↓k_e_sl4_eq, ↓k_e_sl3_eq, ↓k_e_sl2_eq, ↓k_e_sl1_eq, ↓e_sl, ↓k_e_fmt2_eq, ↓k_e_fmt1_eq, ↓e_fmt, ↓k_e_revt2_eq, ↓k_e_revt1_eq, ↓e_revt, ↓k_e_js1_eq, ↓e_js, ↓dj_nil', ↓k_dj_cons'3_eq, ↓k_dj_cons'2_eq, ↓k_dj_cons'1_eq, ↓dj_cons', ↓k_e_rev2_eq, ↓k_e_rev1_eq, ↓e_rev, ↓eltM_eq, ↓k_e_comp2_eq, ↓k_e_comp1_eq, ↓e_comp, ↓e_pop0, ↓a_nil', ↓k_a_cons'3_eq, ↓k_a_cons'2_eq, ↓k_a_cons'1_eq, ↓a_cons', ↓d_nil', ↓k_d_cons'3_eq, ↓k_d_cons'2_eq, ↓k_d_cons'1_eq, ↓d_cons', ↓v_nil', ↓k_v_cons'3_eq, ↓k_v_cons'2_eq, ↓k_v_cons'1_eq, ↓v_cons', ↓k_i_zip'4_eq, ↓k_i_zip'3_eq, ↓k_i_zip'2_eq, ↓k_i_zip'1_eq, ↓i_zip', ↓k_i_zipL'4_eq, ↓k_i_zipL'3_eq, ↓k_i_zipL'2_eq, ↓k_i_zipL'1_eq, ↓i_zipL', ↓k_i_rng1'1_eq, ↓i_rng1', ↓k_i_rng2'3_eq, ↓k_i_rng2'2_eq, ↓k_i_rng2'1_eq, ↓i_rng2', ↓k_i_enm'2_eq, ↓k_i_enm'1_eq, ↓i_enm', ↓k_i_seqI'2_eq, ↓k_i_seqI'1_eq, ↓i_seqI', ↓partO_var, ↓condB_var, ↓partO_cst, ↓condB_cst, ↓partO_bin, ↓condB_bin, ↓partO_neg, ↓condB_neg, ↓partO_ix, ↓condB_ix, ↓partO_bi, ↓condB_bi, ↓partO_call, ↓condB_call, ↓partO_callb, ↓condB_callb, ↓partO_cmp, ↓condB_cmp, ↓partO_nt, ↓condB_nt, ↓partO_an, ↓condB_an, ↓partO_orr, ↓condB_orr, ↓partO_callk, ↓condB_callk, ↓partO_ite, ↓condB_ite, ↓partO_chn, ↓condB_chn, ↓partO_pop0, ↓condB_pop0, ↓st_skip', ↓k_st_seq'1_eq, ↓st_seq', ↓k_st_asg'3_eq, ↓k_st_asg'2_eq, ↓k_st_asg'1_eq, ↓st_asg', ↓k_st_asgT'3_eq, ↓k_st_asgT'2_eq, ↓k_st_asgT'1_eq, ↓st_asgT', ↓k_st_asgP'2_eq, ↓k_st_asgP'1_eq, ↓st_asgP', ↓k_st_ixs'7_eq, ↓k_st_ixs'6_eq, ↓k_st_ixs'5_eq, ↓k_st_ixs'4_eq, ↓k_st_ixs'3_eq, ↓k_st_ixs'2_eq, ↓k_st_ixs'1_eq, ↓st_ixs', ↓k_st_app'5_eq, ↓k_st_app'4_eq, ↓k_st_app'3_eq, ↓k_st_app'2_eq, ↓k_st_app'1_eq, ↓st_app', ↓k_st_exp'1_eq, ↓st_exp', ↓k_st_ret'1_eq, ↓st_ret', ↓k_st_ifs'1_eq, ↓st_ifs', ↓k_st_fr'1_eq, ↓st_fr', ↓st_rais', ↓k_ixM_eq5_eq, ↓k_ixM_eq4_eq, ↓k_ixM_eq3_eq, ↓k_ixM_eq2_eq, ↓k_ixM_eq1_eq, ↓ixM_eq, ↓st_ix2', ntB_eq, blK_eq, callvR_fn, okL_eq, nxK_eq, putK_eq, frK_eq, setVsK_eq, setTgsK_eq, consK_eq, frzsK_eq, someK_eq, partK_eq, lk0, il0, lk1, il1, lk2, il2, lk3, il3, lk4, il4, lk5, il5, lk6, il6, lk7, il7, lk8, il8, lk9, il9, lk10, il10, lk11, il11, lk12, il12, lk13, il13, lk14, il14, lk15, il15, lk16, il16, R.bind_ok, R.bind_exc, R.bind_bad, slE_fr, slE_own, slD_fr, slD_own, slF_fr, slF_own, slW_own, slR_fr, deref_fr, deref_own, deref_sl, frz_fr, frz_own, frz_sl, ownAt_eq, frAt_eq, ofO_some, ofO_none, rvB_fr, rvI_fr, andG_t, andG_f, orG_t, orG_f, ifR_t, ifR_f, okM_eq, badM_eq, pop0S_cons, seqOf_lst, seqOf_tup, zipM_l, zipM_t, zipLM_l, enmM_l, asExn_x, asStr_s, frzs_nil, frzs_cons, partO_nil, condB_nil, settle_fr, settle_own, stB_t, stB_f, settle_sl, noSl_fr, noSl_own, noSl_sl, setV_fr, setV_own, setV_sl, setVs_nil, setVs_cons, setTg_nm, setTg_tp, setTgs_nil, setTgs_cons, putM_eq, raiseM_eq, thenS_nx, thenS_ret, toM_fr, toM_own, toM_exc, toMb_fr, toMb_own, keep_exc, obs_mk, env_mk, finB_f, finB_t, endB_nx, endB_fr, endB_own, endS_own, endS_fr, endB_slf, endB_slt, endB_exc, ix2G_2, ix2K_eq, wipe_nil, wipe_cons, Nat.beq, sA0, sA1, sA2, sA3, sA4, sA5, sA6, sA7, sA8, sA9, sA10, sA11, sA12, sA13, sA14, sA15, sA16, sA17, sA18, sA19, sP0, sP1, sP2, sP3, sP4, sP5, sP6, sP7, sP8, sP9, sP10, sP11, sP12, sP13, sP14, sP15, sP16, sP17, sP18, sP19, o0_, o1_, o2_, o3_, o4_, o5_, o6_, o7_, o8_, o9_, o10_, o11_, o12_, o13_, o14_, o15_, o16_, o17_, o18_, o19_, o20_, o21_, o22_, o23_, o24_, o25_, o26_, o27_, o28_, o29_, o30_, o31_, o32_, o33_, o34_, o35_, o36_, o37_, o38_, o39_, o40_, o41_, o42_, o43_, o44_, o45_, o46_, o47_, o48_, o49_, o50_, o51_, o52_, o53_, o54_, o55_, o56_, o57_, o58_, o59_, o60_, o61_, o62_, o63_, o64_, o65_, o66_, turnR_eq, turnK_eq, cT4_eq, cT3_eq, cT0_eq, cT2_eq, cT1_eq, cTurn_eq, forGo_nil, atI0, atI1, atI2, atI3, pyEq_ii, pyEq_bb, Int.reduceBEq, Int.reduceLT, Int.reduceLE, Int.reduceAdd, Int.reduceSub, Int.reduceNeg, Int.reduceMul, decide_true, decide_false, Bool.not_true, Bool.not_false, Bool.false_and, Bool.true_and, Bool.and_true, Bool.and_false, Bool.or_false, Bool.false_or, Bool.true_or, Bool.or_true]))

/-! texts -/
abbrev nlS : Str := "\n"
abbrev blS : Str := " "
theorem nlS_eq : nlS = ⟨#[10]⟩ := by decide +kernel
theorem blS_eq : blS = ⟨#[32]⟩ := by decide +kernel
theorem join_split (x y : Str) : Txt.join y (Txt.split x y) = x := by rw [TL.join_eq]; exact StrLaws.join_split x y
theorem split_ne (x y : Str) : Txt.split x y ≠ [] := by
  have := PyProof.Rows.split_pos x y
  intro h; rw [h] at this; simp at this
theorem split_free (x : Str) (c : Nat) : ∀ p ∈ Txt.split x ⟨#[c]⟩, c ∉ TL.tl p := StrLaws.split_free x c
theorem split_join (c : Nat) (hc : c < 256) {parts : List Str} (hne : parts ≠ []) (hp : ∀ p ∈ parts, c ∉ TL.tl p) : Txt.split (Txt.join ⟨#[c]⟩ parts) ⟨#[c]⟩ = parts :=
  TL.split_join (y := ⟨#[c]⟩) (s := c) (S := []) rfl (by simp [hc]) hne hp
theorem split_uniq (c : Nat) (hc : c < 256) {x : Str} {parts : List Str} (hne : parts ≠ []) (hp : ∀ p ∈ parts, c ∉ TL.tl p) (h : Txt.join ⟨#[c]⟩ parts = x) : Txt.split x ⟨#[c]⟩ = parts := by
  rw [← h]; exact split_join c hc hne hp
theorem tl_join (y : Str) (parts : List Str) : TL.tl (Txt.join y parts) = TL.joinL (TL.tl y) (parts.map TL.tl) := by rw [TL.join_eq]; exact TL.tl_join y parts
theorem joinL_mem {S : List Nat} : ∀ {ps : List (List Nat)} {p : List Nat} {c : Nat}, p ∈ ps → c ∈ p → c ∈ TL.joinL S ps
  | [q], p, c, h, hc => by simp at h; subst h; exact hc
  | q :: r :: t, p, c, h, hc => by
    show c ∈ q ++ (S ++ TL.joinL S (r :: t))
    rcases List.mem_cons.mp h with rfl | h
    · exact List.mem_append_left _ hc
    · exact List.mem_append_right _ (List.mem_append_right _ (joinL_mem h hc))
theorem joinL_mem' {S : List Nat} : ∀ {ps : List (List Nat)} {c : Nat}, c ∈ TL.joinL S ps → c ∈ S ∨ ∃ p ∈ ps, c ∈ p
  | [], c, h => by cases h
  | [q], c, h => .inr ⟨q, by simp, h⟩
  | q :: r :: t, c, h => by
    have h : c ∈ q ++ (S ++ TL.joinL S (r :: t)) := h
    rcases List.mem_append.mp h with h | h
    · exact .inr ⟨q, by simp, h⟩
    · rcases List.mem_append.mp h with h | h
      · exact .inl h
      · rcases joinL_mem' h with h | ⟨p, hp, hc⟩
        · exact .inl h
        · exact .inr ⟨p, by simp [hp], hc⟩
theorem split_mem {x y p : Str} {c : Nat} (h : p ∈ Txt.split x y) (hc : c ∈ TL.tl p) : c ∈ TL.tl x := by
  have e := congrArg TL.tl (join_split x y)
  rw [tl_join] at e
  rw [← e]
  exact joinL_mem (List.mem_map_of_mem h) hc
/-- all signs are code points -/
theorem strOk_iff {x : Str} : PyData.strOk x = true ↔ ∀ c ∈ TL.tl x, c < 0x110000 := by
  unfold PyData.strOk TL.tl
  rw [← Array.all_toList, List.all_eq_true]
  simp
theorem split_ok {x y p : Str} (hx : PyData.strOk x = true) (h : p ∈ Txt.split x y) : PyData.strOk p = true := strOk_iff.mpr fun c hc => strOk_iff.mp hx c (split_mem h hc)
theorem join_ok {y : Str} {ps : List Str} (hy : PyData.strOk y = true) (h : ∀ p ∈ ps, PyData.strOk p = true) : PyData.strOk (Txt.join y ps) = true := strOk_iff.mpr fun c hc => by
  rw [tl_join] at hc
  rcases joinL_mem' hc with hc | ⟨p, hp, hc⟩
  · exact strOk_iff.mp hy c hc
  · obtain ⟨q, hq, rfl⟩ := List.mem_map.mp hp
    exact strOk_iff.mp (h q hq) c hc
theorem app_ok {x y : Str} (hx : PyData.strOk x = true) (hy : PyData.strOk y = true) : PyData.strOk (x ++ y) = true := strOk_iff.mpr fun c hc => by
  rw [TL.tl_append] at hc
  rcases List.mem_append.mp hc with hc | hc
  · exact strOk_iff.mp hx c hc
  · exact strOk_iff.mp hy c hc
theorem len_tl (x : Str) : x.length = (TL.tl x).length := by unfold Str.length TL.tl; simp
theorem len_app (x y : Str) : (x ++ y).length = x.length + y.length := by rw [len_tl, TL.tl_append, List.length_append, ← len_tl, ← len_tl]
theorem joinL_len {S : List Nat} : ∀ {ps : List (List Nat)}, (TL.joinL S ps).length + S.length = (ps.map List.length).sum + ps.length * S.length ∨ ps = []
  | [] => .inr rfl
  | [q] => .inl (by simp [TL.joinL])
  | q :: r :: t => by
    left
    rcases joinL_len (S := S) (ps := r :: t) with h | h
    · show (q ++ (S ++ TL.joinL S (r :: t))).length + S.length = _
      simp only [List.length_append, List.map_cons, List.sum_cons, List.length_cons, Nat.succ_mul] at h ⊢
      omega
    · cases h
theorem join_len {y : Str} {ps : List Str} (h : ps ≠ []) : (Txt.join y ps).length + y.length = (ps.map Str.length).sum + ps.length * y.length := by
  rcases joinL_len (S := TL.tl y) (ps := ps.map TL.tl) with e | e
  · rw [← tl_join, ← len_tl, ← len_tl, List.map_map, List.length_map] at e
    rw [e]
    congr 2
  · exact absurd (List.map_eq_nil_iff.mp e) h
theorem split_sum {x y : Str} (hy : y.length = 1) : ((Txt.split x y).map Str.length).sum + (Txt.split x y).length = x.length + 1 := by
  have e := join_len (y := y) (split_ne x y)
  rw [join_split, hy] at e
  omega
theorem mem_le_sum : ∀ {ls : List Str} {p : Str}, p ∈ ls → p.length ≤ (ls.map Str.length).sum
  | x :: ls, p, h => by
    rcases List.mem_cons.mp h with rfl | h
    · simp
    · have := mem_le_sum h; simp; omega
theorem split_lens {x y p : Str} (hy : y.length = 1) (h : p ∈ Txt.split x y) : p.length ≤ x.length := by
  have a := split_sum (x := x) hy
  have b := mem_le_sum h
  have c := List.length_pos_of_mem h
  omega
theorem split_cnt {x y : Str} (hy : y.length = 1) : (Txt.split x y).length ≤ x.length + 1 := by
  have a := split_sum (x := x) hy
  omega
theorem nl_len : nlS.length = 1 := by decide +kernel
theorem bl_len : blS.length = 1 := by decide +kernel
/-! numbers as words -/
def numT (i : Int) : Str := Str.ofString (toString i)
def dig (k : Nat) : Str := ⟨#[48 + k]⟩
def ndig (k : Nat) : Str := ⟨#[45, 48 + k]⟩
theorem numT_p (k : Nat) (h : k < 10) : numT (k : Int) = dig k := by
  match k, h with
  | 0, _ | 1, _ | 2, _ | 3, _ | 4, _ | 5, _ | 6, _ | 7, _ | 8, _ | 9, _ => decide +kernel
  | k + 10, h => omega
theorem numT_n (k : Nat) (h : k < 9) : numT (-((k : Int) + 1)) = ndig (k + 1) := by
  match k, h with
  | 0, _ | 1, _ | 2, _ | 3, _ | 4, _ | 5, _ | 6, _ | 7, _ | 8, _ => decide +kernel
  | k + 9, h => omega
/-- the number that a word writes -/
def numL (l : List Nat) : Option Int := match l with
  | [c] => if 48 ≤ c ∧ c ≤ 57 then some ((c : Int) - 48) else none
  | [a, c] => if a = 45 ∧ 49 ≤ c ∧ c ≤ 57 then some (48 - (c : Int)) else none
  | _ => none
def numW (w : Str) : Option Int := numL (TL.tl w)
theorem small_cases {P : Int → Prop} (hp : ∀ k : Nat, k < 10 → P k) (hn : ∀ k : Nat, k < 9 → P (-((k : Int) + 1))) {i : Int} (h : -9 ≤ i) (h' : i ≤ 9) : P i := by
  rcases Int.lt_or_le i 0 with q | q
  · have := hn (-i - 1).toNat (by omega)
    have e : -(((-i - 1).toNat : Int) + 1) = i := by omega
    rwa [e] at this
  · have := hp i.toNat (by omega)
    have e : ((i.toNat : Nat) : Int) = i := by omega
    rwa [e] at this
theorem numW_numT {i : Int} (h : -9 ≤ i) (h' : i ≤ 9) : numW (numT i) = some i := by
  refine small_cases (P := fun i => numW (numT i) = some i) (fun k hk => ?_) (fun k hk => ?_) h h'
  · show numW (numT k) = some (k : Int)
    rw [numT_p k hk]
    show (if 48 ≤ 48 + k ∧ 48 + k ≤ 57 then some (((48 + k : Nat) : Int) - 48) else none) = _
    rw [if_pos ⟨by omega, by omega⟩]; congr 1; omega
  · show numW (numT (-((k : Int) + 1))) = some (-((k : Int) + 1))
    rw [numT_n k hk]
    show (if 45 = 45 ∧ 49 ≤ 48 + (k + 1) ∧ 48 + (k + 1) ≤ 57 then some (48 - ((48 + (k + 1) : Nat) : Int)) else none) = _
    rw [if_pos ⟨rfl, by omega, by omega⟩]; congr 1; omega
theorem numT_numW {w : Str} {i : Int} (h : numW w = some i) : -9 ≤ i ∧ i ≤ 9 ∧ w = numT i := by
  unfold numW numL at h
  split at h
  · rename_i c e
    split at h
    · rename_i hc
      cases h
      refine ⟨by omega, by omega, ?_⟩
      have := numT_p (c - 48) (by omega)
      have e2 : ((c : Int) - 48) = ((c - 48 : Nat) : Int) := by omega
      rw [e2, this]
      apply TL.ext_tl
      rw [e]
      show [c] = [48 + (c - 48)]
      congr 1; omega
    · cases h
  · rename_i a c e
    split at h
    · rename_i hc
      cases h
      refine ⟨by omega, by omega, ?_⟩
      have := numT_n (c - 49) (by omega)
      have e2 : (48 - (c : Int)) = -(((c - 49 : Nat) : Int) + 1) := by omega
      rw [e2, this]
      apply TL.ext_tl
      rw [e, hc.1]
      show [45, c] = [45, 48 + (c - 49 + 1)]
      congr 2; omega
    · cases h
  · cases h
theorem intText_numT {i : Int} (h : -9 ≤ i) (h' : i ≤ 9) : intText? (numT i) = some i := by
  refine small_cases (P := fun i => intText? (numT i) = some i) (fun k hk => ?_) (fun k hk => ?_) h h'
  · match k, hk with
    | 0, _ | 1, _ | 2, _ | 3, _ | 4, _ | 5, _ | 6, _ | 7, _ | 8, _ | 9, _ => decide +kernel
    | k + 10, h => omega
  · match k, hk with
    | 0, _ | 1, _ | 2, _ | 3, _ | 4, _ | 5, _ | 6, _ | 7, _ | 8, _ => decide +kernel
    | k + 9, h => omega
theorem numT_len {i : Int} (h : -9 ≤ i) (h' : i ≤ 9) : (numT i).length ≤ 2 ∧ PyData.strOk (numT i) = true ∧ (∀ c ∈ TL.tl (numT i), c ≠ 10 ∧ c ≠ 32) ∧ i.natAbs.log2 < 1920 := by
  refine small_cases (P := fun i => (numT i).length ≤ 2 ∧ PyData.strOk (numT i) = true ∧ (∀ c ∈ TL.tl (numT i), c ≠ 10 ∧ c ≠ 32) ∧ i.natAbs.log2 < 1920) (fun k hk => ?_) (fun k hk => ?_) h h'
  · match k, hk with
    | 0, _ | 1, _ | 2, _ | 3, _ | 4, _ | 5, _ | 6, _ | 7, _ | 8, _ | 9, _ => decide +kernel
    | k + 10, h => omega
  · match k, hk with
    | 0, _ | 1, _ | 2, _ | 3, _ | 4, _ | 5, _ | 6, _ | 7, _ | 8, _ => decide +kernel
    | k + 9, h => omega
def itemIn (w : Str) : PV := match numW w with
  | some i => .int i
  | none => .str w
def lawInt (w : Str) : PV := match numW w with
  | some i => .int i
  | none => .non
def strI (v : PV) : PV := match v with
  | .int i => .str (numT i)
  | _ => .non
theorem any_num (w : Str) : (((rngP (-9) 10).map strI).any fun y => eqP y (.str w)) = (numW w).isSome := by
  apply Bool.eq_iff_iff.mpr
  rw [List.any_map, List.any_eq_true]
  constructor
  · rintro ⟨v, hv, e⟩
    obtain ⟨i, rfl, i0, i1⟩ := mem_rngP hv
    simp only [Function.comp, strI, eqP_ss, beq_iff_eq] at e
    rw [← e, numW_numT i0 (by omega)]; rfl
  · intro h
    obtain ⟨i, e⟩ := Option.isSome_iff_exists.mp h
    obtain ⟨i0, i1, e2⟩ := numT_numW e
    refine ⟨.int i, ?_, ?_⟩
    · unfold rngP
      refine List.mem_map.mpr ⟨(i + 9).toNat, List.mem_range.mpr (by omega), ?_⟩
      congr 1; omega
    · simp only [Function.comp, strI, eqP_ss, e2, beq_self_eq_true]
theorem opStr {i : Int} (h : i.natAbs.log2 < 1920) : opBi .str [.int i] = some (.fr (.str (numT i))) := by
  simp only [opBi, decide_eq_true h, if_true, numT]
theorem opStrS {z : Str} : opBi .str [.str z] = some (.fr (.str z)) := rfl
theorem opIntS {z : Str} {i : Int} (h : z.length ≤ 640) (e : intText? z = some i) : opBi .int [.str z] = some (.fr (.int i)) := by
  simp only [opBi, decide_eq_true h, if_true, e, Option.map_some]
theorem sItem {n : Nat} {ob : List Ob} {w : Str} (hw : PyData.strOk w = true) : callF D (n + 1) 7 [.str w] ob = .ok (itemIn w) false .non ob := by
  rw [c7]; simp only [def7]
  walk_at "ev"
  rw [rng2_ok (by decide) (by decide) (by decide) (by decide)]; walk_at "ev"
  rw [comp_map strI (by
    intro v hv
    obtain ⟨i, rfl, i0, i1⟩ := mem_rngP hv
    refine ⟨⟨[_, _, .fr (.int i)], _⟩, ?_, rfl⟩
    walk_at "ev"
    rw [opStr (numT_len i0 (by omega)).2.2.2]; walk_at "ev"
    rfl) _ rfl]
  walk_at "ev"
  rw [pyIn_pl (PL.str (L := 0) (d := 0) hw) (PL.tup (L := 19) (d := 0) (by simp [len_rngP]) (by
    intro x hx
    obtain ⟨v, hv, rfl⟩ := List.mem_map.mp hx
    obtain ⟨i, rfl, i0, i1⟩ := mem_rngP hv
    exact .str (numT_len i0 (by omega)).2.1)) (by decide) (by decide)]
  walk_at "ev"
  rw [any_num]
  unfold itemIn
  cases e : numW w with
  | none => simp only [Option.isSome_none]; walk_at "ev"
  | some i =>
    obtain ⟨i0, i1, e2⟩ := numT_numW e
    simp only [Option.isSome_some]; walk_at "ev"
    have := numT_len i0 i1
    rw [opIntS (by rw [e2]; omega) (by rw [e2]; exact intText_numT i0 i1)]
    walk_at "ev"
end K14.P
end
section
set_option Elab.async false
set_option linter.all false
set_option autoImplicit true
set_option maxRecDepth 100000
set_option maxHeartbeats 4000000
namespace K14.P
open PySem Qv
local macro_rules | `(tactic| walk_at "ev") => `(tactic| simp only [↓e_var, ↓e_cst, ↓k_e_bin4_eq, ↓k_e_bin3_eq, ↓k_e_bin2_eq, ↓k_e_bin1_eq, ↓e_bin, ↓k_e_neg2_eq, ↓k_e_neg1_eq, ↓e_neg, ↓condE_eq, ↓k_e_nt1_eq, ↓e_nt, ↓k_e_an2_eq, ↓k_e_an1_eq, ↓e_an, ↓k_e_orr2_eq, ↓k_e_orr1_eq, ↓e_orr, ↓k_e_ite1_eq, ↓e_ite, ↓k_e_tup1_eq, ↓e_tup, ↓k_e_lst1_eq, ↓e_lst, ↓k_e_cmp4_eq, ↓k_e_cmp3_eq, ↓k_e_cmp2_eq, ↓k_e_cmp1_eq, ↓e_cmp, ↓k_chnR_eq3_eq, ↓k_chnR_eq2_eq, ↓k_chnR_eq1_eq, ↓chnR_eq, ↓k_e_chn6_eq, ↓k_e_chn5_eq, ↓k_e_chn4_eq, ↓k_e_chn3_eq, ↓k_e_chn2_eq, ↓k_e_chn1_eq, ↓e_chn, ↓callR_eq, ↓k_e_call1_eq, ↓e_call, ↓callbR_eq, ↓k_e_callb3_eq, ↓k_e_callb2_eq, ↓k_e_callb1_eq, ↓e_callb, ↓callkR_eq, ↓k_e_callk2_eq, ↓k_e_callk1_eq, ↓e_callk, ↓callvA_eq, ↓k_e_callv1_eq, ↓e_callv, ↓k_e_bi1_eq, ↓e_bi, ↓k_e_callx2_eq, ↓k_e_callx1_eq, ↓e_callx, ↓k_e_tx5_eq, ↓k_e_tx4_eq, ↓k_e_tx3_eq, ↓k_e_tx2_eq, ↓k_e_tx1_eq, ↓e_tx, ↓k_e_ix4_eq, ↓k_e_ix3_eq, ↓k_e_ix2_eq, ↓k_e_ix1_eq, ↓e_ix, ↓k_e_sl4_eq, ↓k_e_sl3_eq, ↓k_e_sl2_eq, ↓k_e_sl1_eq, ↓e_sl, ↓k_e_fmt2_eq, ↓k_e_fmt1_eq, ↓e_fmt, ↓k_e_revt2_eq, ↓k_e_revt1_eq, ↓e_revt, ↓k_e_js1_eq, ↓e_js, ↓dj_nil', ↓k_dj_cons'3_eq, ↓k_dj_cons'2_eq, ↓k_dj_cons'1_eq, ↓dj_cons', ↓k_e_rev2_eq, ↓k_e_rev1_eq, ↓e_rev, ↓eltM_eq, ↓k_e_comp2_eq, ↓k_e_comp1_eq, ↓e_comp, ↓e_pop0, ↓a_nil', ↓k_a_cons'3_eq, ↓k_a_cons'2_eq, ↓k_a_cons'1_eq, ↓a_cons', ↓d_nil', ↓k_d_cons'3_eq, ↓k_d_cons'2_eq, ↓k_d_cons'1_eq, ↓d_cons', ↓v_nil', ↓k_v_cons'3_eq, ↓k_v_cons'2_eq, ↓k_v_cons'1_eq, ↓v_cons', ↓k_i_zip'4_eq, ↓k_i_zip'3_eq, ↓k_i_zip'2_eq, ↓k_i_zip'1_eq, ↓i_zip', ↓k_i_zipL'4_eq, ↓k_i_zipL'3_eq, ↓k_i_zipL'2_eq, ↓k_i_zipL'1_eq, ↓i_zipL', ↓k_i_rng1'1_eq, ↓i_rng1', ↓k_i_rng2'3_eq, ↓k_i_rng2'2_eq, ↓k_i_rng2'1_eq, ↓i_rng2', ↓k_i_enm'2_eq, ↓k_i_enm'1_eq, ↓i_enm', ↓k_i_seqI'2_eq, ↓k_i_seqI'1_eq, ↓i_seqI', ↓partO_var, ↓condB_var, ↓partO_cst, ↓condB_cst, ↓partO_bin, ↓condB_bin, ↓partO_neg, ↓condB_neg, ↓partO_ix, ↓condB_ix, ↓partO_bi, ↓condB_bi, ↓partO_call, ↓condB_call, ↓partO_callb, ↓condB_callb, ↓partO_cmp, ↓condB_cmp, ↓partO_nt, ↓condB_nt, ↓partO_an, ↓condB_an, ↓partO_orr, ↓condB_orr, ↓partO_callk, ↓condB_callk, ↓partO_ite, ↓condB_ite, ↓partO_chn, ↓condB_chn, ↓partO_pop0, ↓condB_pop0, ↓st_skip', ↓k_st_seq'1_eq, ↓st_seq', ↓k_st_asg'3_eq, ↓k_st_asg'2_eq, ↓k_st_asg'1_eq, ↓st_asg', ↓k_st_asgT'3_eq, ↓k_st_asgT'2_eq, ↓k_st_asgT'1_eq, ↓st_asgT', ↓k_st_asgP'2_eq, ↓k_st_asgP'1_eq, ↓st_asgP', ↓k_st_ixs'7_eq, ↓k_st_ixs'6_eq, ↓k_st_ixs'5_eq, ↓k_st_ixs'4_eq, ↓k_st_ixs'3_eq, ↓k_st_ixs'2_eq, ↓k_st_ixs'1_eq, ↓st_ixs', ↓k_st_app'5_eq, ↓k_st_app'4_eq, ↓k_st_app'3_eq, ↓k_st_app'2_eq, ↓k_st_app'1_eq, ↓st_app', ↓k_st_exp'1_eq, ↓st_exp', ↓k_st_ret'1_eq, ↓st_ret', ↓k_st_ifs'1_eq, ↓st_ifs', ↓k_st_fr'1_eq, ↓st_fr', ↓st_rais', ↓k_ixM_eq5_eq, ↓k_ixM_eq4_eq, ↓k_ixM_eq3_eq, ↓k_ixM_eq2_eq, ↓k_ixM_eq1_eq, ↓ixM_eq, ↓st_ix2', ntB_eq, blK_eq, callvR_fn, okL_eq, nxK_eq, putK_eq, frK_eq, setVsK_eq, setTgsK_eq, consK_eq, frzsK_eq, someK_eq, partK_eq, lk0, il0, lk1, il1, lk2, il2, lk3, il3, lk4, il4, lk5, il5, lk6, il6, lk7, il7, lk8, il8, lk9, il9, lk10, il10, lk11, il11, lk12, il12, lk13, il13, lk14, il14, lk15, il15, lk16, il16, R.bind_ok, R.bind_exc, R.bind_bad, slE_fr, slE_own, slD_fr, slD_own, slF_fr, slF_own, slW_own, slR_fr, deref_fr, deref_own, deref_sl, frz_fr, frz_own, frz_sl, ownAt_eq, frAt_eq, ofO_some, ofO_none, rvB_fr, rvI_fr, andG_t, andG_f, orG_t, orG_f, ifR_t, ifR_f, okM_eq, badM_eq, pop0S_cons, seqOf_lst, seqOf_tup, zipM_l, zipM_t, zipLM_l, enmM_l, asExn_x, asStr_s, frzs_nil, frzs_cons, partO_nil, condB_nil, settle_fr, settle_own, stB_t, stB_f, settle_sl, noSl_fr, noSl_own, noSl_sl, setV_fr, setV_own, setV_sl, setVs_nil, setVs_cons, setTg_nm, setTg_tp, setTgs_nil, setTgs_cons, putM_eq, raiseM_eq, thenS_nx, thenS_ret, toM_fr, toM_own, toM_exc, toMb_fr, toMb_own, keep_exc, obs_mk, env_mk, finB_f, finB_t, endB_nx, endB_fr, endB_own, endS_own, endS_fr, endB_slf, endB_slt, endB_exc, ix2G_2, ix2K_eq, wipe_nil, wipe_cons, Nat.beq, sA0, sA1, sA2, sA3, sA4, sA5, sA6, sA7, sA8, sA9, sA10, sA11, sA12, sA13, sA14, sA15, sA16, sA17, sA18, sA19, sP0, sP1, sP2, sP3, sP4, sP5, sP6, sP7, sP8, sP9, sP10, sP11, sP12, sP13, sP14, sP15, sP16, sP17, sP18, sP19, o0_, o1_, o2_, o3_, o4_, o5_, o6_, o7_, o8_, o9_, o10_, o11_, o12_, o13_, o14_, o15_, o16_, o17_, o18_, o19_, o20_, o21_, o22_, o23_, o24_, o25_, o26_, o27_, o28_, o29_, o30_, o31_, o32_, o33_, o34_, o35_, o36_, o37_, o38_, o39_, o40_, o41_, o42_, o43_, o44_, o45_, o46_, o47_, o48_, o49_, o50_, o51_, o52_, o53_, o54_, o55_, o56_, o57_, o58_, o59_, o60_, o61_, o62_, o63_, o64_, o65_, o66_, turnR_eq, turnK_eq, cT4_eq, cT3_eq, cT0_eq, cT2_eq, cT1_eq, cTurn_eq, forGo_nil, atI0, atI1, atI2, atI3, pyEq_ii, pyEq_bb, Int.reduceBEq, Int.reduceLT, Int.reduceLE, Int.reduceAdd, Int.reduceSub, Int.reduceNeg, Int.reduceMul, decide_true, decide_false, Bool.not_true, Bool.not_false, Bool.false_and, Bool.true_and, Bool.and_true, Bool.and_false, Bool.or_false, Bool.false_or, Bool.true_or, Bool.or_true])
local macro_rules | `(tactic| walk_at "ev?") => `(tactic| (try simp only [↓e_var, ↓e_cst, ↓k_e_bin4_eq, ↓k_e_bin3_eq, ↓k_e_bin2_eq, ↓k_e_bin1_eq, ↓e_bin, ↓k_e_neg2_eq, ↓k_e_neg1_eq, ↓e_neg, ↓condE_eq, ↓k_e_nt1_eq, ↓e_nt, ↓k_e_an2_eq, ↓k_e_an1_eq, ↓e_an, ↓k_e_orr2_eq, ↓k_e_orr1_eq, ↓e_orr, ↓k_e_ite1_eq, ↓e_ite, ↓k_e_tup1_eq, ↓e_tup, ↓k_e_lst1_eq, ↓e_lst, ↓k_e_cmp4_eq, ↓k_e_cmp3_eq, ↓k_e_cmp2_eq, ↓k_e_cmp1_eq, ↓e_cmp, ↓k_chnR_eq3_eq, ↓k_chnR_eq2_eq, ↓k_chnR_eq1_eq, ↓chnR_eq, ↓k_e_chn6_eq, ↓k_e_chn5_eq, ↓k_e_chn4_eq, ↓k_e_chn3_eq, ↓k_e_chn2_eq, ↓k_e_chn1_eq, ↓e_chn, ↓callR_eq, ↓k_e_call1_eq, ↓e_call, ↓callbR_eq, ↓k_e_callb3_eq, ↓k_e_callb2_eq, ↓k_e_callb1_eq, ↓e_callb, ↓callkR_eq, ↓k_e_callk2_eq, ↓k_e_callk1_eq, ↓e_callk, ↓callvA_eq, ↓k_e_callv1_eq, ↓e_callv, ↓k_e_bi1_eq, ↓e_bi, ↓k_e_callx2_eq, ↓k_e_callx1_eq, ↓e_callx, ↓k_e_tx5_eq, ↓k_e_tx4_eq, ↓k_e_tx3_eq, ↓k_e_tx2_eq, ↓k_e_tx1_eq, ↓e_tx, ↓k_e_ix4_eq, ↓k_e_ix3_eq, ↓k_e_ix2_eq, ↓k_e_ix1_eq, ↓e_ix, ↓k_e_sl4_eq, ↓k_e_sl3_eq, ↓k_e_sl2_eq, ↓k_e_sl1_eq, ↓e_sl, ↓k_e_fmt2_eq, ↓k_e_fmt1_eq, ↓e_fmt, ↓k_e_revt2_eq, ↓k_e_revt1_eq, ↓e_revt, ↓k_e_js1_eq, ↓e_js, ↓dj_nil', ↓k_dj_cons'3_eq, ↓k_dj_cons'2_eq, ↓k_dj_cons'1_eq, ↓dj_cons', ↓k_e_rev2_eq, ↓k_e_rev1_eq, ↓e_rev, ↓eltM_eq, ↓k_e_comp2_eq, ↓k_e_comp1_eq, ↓e_comp, ↓e_pop0, ↓a_nil', ↓k_a_cons'3_eq, ↓k_a_cons'2_eq, ↓k_a_cons'1_eq, ↓a_cons', ↓d_nil', ↓k_d_cons'3_eq, ↓k_d_cons'2_eq, ↓k_d_cons'1_eq, ↓d_cons', ↓v_nil', ↓k_v_cons'3_eq, ↓k_v_cons'2_eq, ↓k_v_cons'1_eq, ↓v_cons', ↓k_i_zip'4_eq, ↓k_i_zip'3_eq, ↓k_i_zip'2_eq, ↓k_i_zip'1_eq, ↓i_zip', ↓k_i_zipL'4_eq, ↓k_i_zipL'3_eq, ↓k_i_zipL'2_eq, ↓k_i_zipL'1_eq, ↓i_zipL', ↓k_i_rng1'1_eq, ↓i_rng1', ↓k_i_rng2'3_eq, ↓k_i_rng2'2_eq, ↓k_i_rng2'1_eq, ↓i_rng2', ↓k_i_enm'2_eq, ↓k_i_enm'1_eq, ↓i_enm', ↓k_i_seqI'2_eq, ↓k_i_seqI'1_eq, ↓i_seqI', ↓partO_var, ↓condB_var, ↓partO_cst, ↓condB_cst, ↓partO_bin, ↓condB_bin, ↓partO_neg, ↓condB_neg, ↓partO_ix, ↓condB_ix, ↓partO_bi, ↓condB_bi, ↓partO_call, ↓condB_call, ↓partO_callb, ↓condB_callb, ↓partO_cmp, ↓condB_cmp, ↓partO_nt, ↓condB_nt, ↓partO_an, ↓condB_an, ↓partO_orr, ↓condB_orr, ↓partO_callk, ↓condB_callk, ↓partO_ite, ↓condB_ite, ↓partO_chn, ↓condB_chn, ↓partO_pop0, ↓condB_pop0, ↓st_skip', ↓k_st_seq'1_eq, ↓st_seq', ↓k_st_asg'3_eq, ↓k_st_asg'2_eq, ↓k_st_asg'1_eq, ↓st_asg', ↓k_st_asgT'3_eq, ↓k_st_asgT'2_eq, ↓k_st_asgT'1_eq, ↓st_asgT', ↓k_st_asgP'2_eq, ↓k_st_asgP'1_eq, ↓st_asgP', ↓k_st_ixs'7_eq, ↓k_st_ixs'6_eq, ↓k_st_ixs'5_eq, ↓k_st_ixs'4_eq, ↓k_st_ixs'3_eq, ↓k_st_ixs'2_eq, ↓k_st_ixs'1_eq, ↓st_ixs', ↓k_st_app'5_eq, ↓k_st_app'4_eq, ↓k_st_app'3_eq, ↓k_st_app'2_eq, ↓k_st_app'1_eq, ↓st_app', ↓k_st_exp'1_eq, ↓st_exp', ↓k_st_ret'1_eq, ↓st_ret', ↓k_st_ifs'1_eq, ↓st_ifs', ↓k_st_fr'1_eq, ↓st_fr', ↓st_rais', ↓k_ixM_eq5_eq, ↓k_ixM_eq4_eq, ↓k_ixM_eq3_eq, ↓k_ixM_eq2_eq, ↓k_ixM_eq1_eq, ↓ixM_eq, ↓st_ix2', ntB_eq, blK_eq, callvR_fn, okL_eq, nxK_eq, putK_eq, frK_eq, setVsK_eq, setTgsK_eq, consK_eq, frzsK_eq, someK_eq, partK_eq, lk0, il0, lk1, il1, lk2, il2, lk3, il3, lk4, il4, lk5, il5, lk6, il6, lk7, il7, lk8, il8, lk9, il9, lk10, il10, lk11, il11, lk12, il12, lk13, il13, lk14, il14, lk15, il15, lk16, il16, R.bind_ok, R.bind_exc, R.bind_bad, slE_fr, slE_own, slD_fr, slD_own, slF_fr, slF_own, slW_own, slR_fr, deref_fr, deref_own, deref_sl, frz_fr, frz_own, frz_sl, ownAt_eq, frAt_eq, ofO_some, ofO_none, rvB_fr, rvI_fr, andG_t, andG_f, orG_t, orG_f, ifR_t, ifR_f, okM_eq, badM_eq, pop0S_cons, seqOf_lst, seqOf_tup, zipM_l, zipM_t, zipLM_l, enmM_l, asExn_x, asStr_s, frzs_nil, frzs_cons, partO_nil, condB_nil, settle_fr, settle_own, stB_t, stB_f, settle_sl, noSl_fr, noSl_own, noSl_sl, setV_fr, setV_own, setV_sl, setVs_nil, setVs_cons, setTg_nm, setTg_tp, setTgs_nil, setTgs_cons, putM_eq, raiseM_eq, thenS_nx, thenS_ret, toM_fr, toM_own, toM_exc, toMb_fr, toMb_own, keep_exc, obs_mk, env_mk, finB_f, finB_t, endB_nx, endB_fr, endB_own, endS_own, endS_fr, endB_slf, endB_slt, endB_exc, ix2G_2, ix2K_eq, wipe_nil, wipe_cons, Nat.beq, sA0, sA1, sA2, sA3, sA4, sA5, sA6, sA7, sA8, sA9, sA10, sA11, sA12, sA13, sA14, sA15, sA16, sA17, sA18, sA19, sP0, sP1, sP2, sP3, sP4, sP5, sP6, sP7, sP8, sP9, sP10, sP11, sP12, sP13, sP14, sP15, sP16, sP17, sP18, sP19, o0_, o1_, o2_, o3_, o4_, o5_, o6_, o7_, o8_, o9_, o10_, o11_, o12_, o13_, o14_, o15_, o16_, o17_, o18_, o19_, o20_, o21_, o22_, o23_, o24_, o25_, o26_, o27_, o28_, o29_, o30_, o31_, o32_, o33_, o34_, o35_, o36_, o37_, o38_, o39_, o40_, o41_, o42_, o43_, o44_, o45_, o46_, o47_, o48_, o49_, o50_, o51_, o52_, o53_, o54_, o55_, o56_, o57_, o58_, o59_, o60_, o61_, o62_, o63_, o64_, o65_, o66_, turnR_eq, turnK_eq, cT4_eq, cT3_eq, cT0_eq, cT2_eq, cT1_eq, cTurn_eq, forGo_nil, atI0, atI1, atI2, atI3, pyEq_ii, pyEq_bb, Int.reduceBEq, Int.reduceLT, Int.reduceLE, Int.reduceAdd, Int.reduceSub, Int.reduceNeg, Int.reduceMul, decide_true, decide_false, Bool.not_true, Bool.not_false, Bool.false_and, Bool.true_and, Bool.and_true, Bool.and_false, Bool.or_false, Bool.false_or, Bool.true_or, Bool.or_true]))

def Dd.words : Dd → List Str
  | .push w m => ["push", numT w, numT m]
  | .turn w m => ["turn", numT w, numT m]
  | .zero w => ["zero", numT w]
def Dd.txt (d : Dd) : Str := Txt.join blS d.words
def lines (W : Nat) (ds : List Dd) : List Str := ((("wheels " : Str) ++ numT W) :: ds.map Dd.txt)
def scT (W : Nat) (ds : List Dd) : Str := Txt.join nlS (lines W ds)
def itS (v : PV) : Str := match v with
  | .int i => numT i
  | .str z => z
  | _ => Str.empty
def Dd.its : Dd → List PV
  | .push w m => [.str "push", .int w, .int m]
  | .turn w m => [.str "turn", .int w, .int m]
  | .zero w => [.str "zero", .int w]
theorem enc_its (d : Dd) : d.enc = .tup d.its := by cases d <;> rfl
theorem its_words (d : Dd) : d.its.map itS = d.words := by cases d <;> rfl
def smallD (W : Nat) (d : Dd) : Prop := d.good W ∧ W ≤ 3
theorem its_ok {W : Nat} {d : Dd} (h : smallD W d) : ∀ v ∈ d.its, (∃ i, v = .int i ∧ -9 ≤ i ∧ i ≤ 9) ∨ v = .str "push" ∨ v = .str "turn" ∨ v = .str "zero" := by
  obtain ⟨h, hW⟩ := h
  intro v hv
  cases d with
  | push w m =>
    obtain ⟨h1, h2, h3, h4⟩ := h
    simp only [Dd.its, List.mem_cons, List.not_mem_nil, or_false] at hv
    rcases hv with rfl | rfl | rfl
    · exact .inr (.inl rfl)
    · exact .inl ⟨_, rfl, by omega, by omega⟩
    · exact .inl ⟨_, rfl, h2, h3⟩
  | turn w m =>
    obtain ⟨h1, h2, h3, h4⟩ := h
    simp only [Dd.its, List.mem_cons, List.not_mem_nil, or_false] at hv
    rcases hv with rfl | rfl | rfl
    · exact .inr (.inr (.inl rfl))
    · exact .inl ⟨_, rfl, by omega, by omega⟩
    · exact .inl ⟨_, rfl, h2, h3⟩
  | zero w =>
    have h : w < W := h
    simp only [Dd.its, List.mem_cons, List.not_mem_nil, or_false] at hv
    rcases hv with rfl | rfl
    · exact .inr (.inr (.inr rfl))
    · exact .inl ⟨_, rfl, by omega, by omega⟩
theorem word_facts : (∀ s ∈ [("push" : Str), "turn", "zero"], s.length = 4 ∧ PyData.strOk s = true ∧ ∀ c ∈ TL.tl s, c ≠ 10 ∧ c ≠ 32) := by decide +kernel
theorem wheels_facts : ("wheels " : Str).length = 7 ∧ PyData.strOk "wheels " = true ∧ (∀ c ∈ TL.tl "wheels ", c ≠ 10) ∧ ("wheels " : Str) = ("wheels" : Str) ++ blS ∧ ("wheels" : Str).length = 6 ∧ PyData.strOk "wheels" = true ∧ ∀ c ∈ TL.tl "wheels", c ≠ 10 ∧ c ≠ 32 := by decide +kernel
theorem its_facts {W : Nat} {d : Dd} (h : smallD W d) : ∀ v ∈ d.its, (itS v).length ≤ 4 ∧ PyData.strOk (itS v) = true ∧ (∀ c ∈ TL.tl (itS v), c ≠ 10 ∧ c ≠ 32) ∧ opBi .str [v] = some (.fr (.str (itS v))) := by
  intro v hv
  rcases its_ok h v hv with ⟨i, rfl, i0, i1⟩ | rfl | rfl | rfl
  · have := numT_len i0 i1
    exact ⟨by show (numT i).length ≤ 4; omega, this.2.1, this.2.2.1, opStr this.2.2.2⟩
  · have := word_facts "push" (by simp)
    exact ⟨by show ("push" : Str).length ≤ 4; omega, this.2.1, this.2.2, rfl⟩
  · have := word_facts "turn" (by simp)
    exact ⟨by show ("turn" : Str).length ≤ 4; omega, this.2.1, this.2.2, rfl⟩
  · have := word_facts "zero" (by simp)
    exact ⟨by show ("zero" : Str).length ≤ 4; omega, this.2.1, this.2.2, rfl⟩
theorem its_n (d : Dd) : d.its.length ≤ 3 ∧ 2 ≤ d.its.length := by cases d <;> simp [Dd.its]
theorem words_sum {W : Nat} {d : Dd} (h : smallD W d) : (d.words.map Str.length).sum ≤ 12 ∧ d.words.length ≤ 3 ∧ d.words ≠ [] := by
  have hb : ∀ l : List PV, (∀ v ∈ l, (itS v).length ≤ 4) → ((l.map itS).map Str.length).sum ≤ 4 * l.length := by
    intro l hl
    induction l with
    | nil => simp
    | cons v l ih =>
      have a := hl v (by simp)
      have b := ih fun u hu => hl u (by simp [hu])
      simp only [List.map_cons, List.sum_cons, List.length_cons]; omega
  have a := hb d.its fun v hv => (its_facts h v hv).1
  have b := its_n d
  rw [its_words] at a
  have c : d.words.length = d.its.length := by rw [← its_words, List.length_map]
  refine ⟨by omega, by omega, fun e => ?_⟩
  rw [e] at c; simp at c; omega
theorem txt_len {W : Nat} {d : Dd} (h : smallD W d) : d.txt.length ≤ 20 := by
  have a := words_sum h
  have b := join_len (y := blS) a.2.2
  rw [bl_len] at b
  unfold Dd.txt
  omega
theorem lines_sum {W : Nat} {ds : List Dd} (h : Scr W ds 4 3) : ((lines W ds).map Str.length).sum ≤ 100 ∧ (lines W ds).length ≤ 5 := by
  have hb : ∀ l : List Dd, (∀ d ∈ l, d.txt.length ≤ 20) → ((l.map Dd.txt).map Str.length).sum ≤ 20 * l.length := by
    intro l hl
    induction l with
    | nil => simp
    | cons v l ih =>
      have a := hl v (by simp)
      have b := ih fun u hu => hl u (by simp [hu])
      simp only [List.map_cons, List.sum_cons, List.length_cons]; omega
  have a := hb ds fun d hd => txt_len ⟨h.ok d hd, h.w3⟩
  have l := h.len
  have w3 := h.w3
  have n := numT_len (i := W) (by omega) (by omega)
  have w := wheels_facts.1
  constructor
  · show ((("wheels " : Str) ++ numT W).length :: (ds.map Dd.txt).map Str.length).sum ≤ 100
    rw [List.sum_cons, len_app]; omega
  · simp [lines]; omega
theorem sAsText {n : Nat} {ob : List Ob} {W : Nat} {ds : List Dd} (h : Scr W ds 4 3) : callF D (n + 1) 5 [encS W ds] ob = .ok (.str (scT W ds)) false .non ob := by
  rw [c5]; simp only [def5, encS]
  have w3 := h.w3
  have nf := numT_len (i := W) (by omega) (by omega)
  have wf := wheels_facts
  have ls := lines_sum h
  walk_at "ev"
  have e1 : Str.empty ++ ("wheels " : Str) = "wheels " := by decide +kernel
  rw [e1, lenOk_le (by omega)]; walk_at "ev"
  rw [opFmtI nf.2.2.2]; walk_at "ev"
  have e2 : ("wheels " : Str) ++ Str.ofString (toString (W : Int)) = ("wheels " : Str) ++ numT W := rfl
  rw [e2, lenOk_le (by rw [len_app]; omega)]; walk_at "ev"
  rw [comp_map (fun v => match v with | .tup xs => .str (Txt.join blS (xs.map itS)) | _ => .non) (by
    intro v hv
    obtain ⟨d, hd, rfl⟩ := List.mem_map.mp hv
    rw [enc_its]
    have sd : smallD W d := ⟨h.ok d hd, w3⟩
    refine ⟨⟨[_, _, .fr (.tup d.its)], _⟩, ?_, rfl⟩
    walk_at "ev"
    rw [comp_map (fun v => .str (itS v)) (by
      intro v hv
      refine ⟨⟨[_, .fr v, _], _⟩, ?_, rfl⟩
      walk_at "ev"
      rw [(its_facts sd v hv).2.2.2]; walk_at "ev") _ rfl]
    walk_at "ev"
    have ws := words_sum sd
    rw [opJoin (strL_map _ _) (by rw [its_words, bl_len]; omega)]; walk_at "ev") _ rfl]
  walk_at "ev"
  rw [opAddL (by simp; have := h.len; omega)]; walk_at "ev"
  have e3 : ([PV.str (("wheels " : Str) ++ numT W)] ++ (ds.map Dd.enc).map (fun v => match v with | .tup xs => PV.str (Txt.join blS (xs.map itS)) | _ => .non)) = (lines W ds).map fun x => .str x := by
    simp only [lines, List.map_cons, List.map_map, List.cons_append, List.nil_append]
    congr 1
    apply List.map_congr_left
    intro d _
    simp only [Function.comp, enc_its, its_words, Dd.txt]
  rw [e3, opJoin (strL_id _) (by rw [nl_len]; omega)]; walk_at "ev"
  rfl
end K14.P
end
section
set_option Elab.async false
set_option linter.all false
set_option autoImplicit true
set_option maxRecDepth 100000
set_option maxHeartbeats 4000000
namespace K14.P
open PySem Qv
local macro_rules | `(tactic| walk_at "ev") => `(tactic| simp only [↓e_var, ↓e_cst, ↓k_e_bin4_eq, ↓k_e_bin3_eq, ↓k_e_bin2_eq, ↓k_e_bin1_eq, ↓e_bin, ↓k_e_neg2_eq, ↓k_e_neg1_eq, ↓e_neg, ↓condE_eq, ↓k_e_nt1_eq, ↓e_nt, ↓k_e_an2_eq, ↓k_e_an1_eq, ↓e_an, ↓k_e_orr2_eq, ↓k_e_orr1_eq, ↓e_orr, ↓k_e_ite1_eq, ↓e_ite, ↓k_e_tup1_eq, ↓e_tup, ↓k_e_lst1_eq, ↓e_lst, ↓k_e_cmp4_eq, ↓k_e_cmp3_eq, ↓k_e_cmp2_eq, ↓k_e_cmp1_eq, ↓e_cmp, ↓k_chnR_eq3_eq, ↓k_chnR_eq2_eq, ↓k_chnR_eq1_eq, ↓chnR_eq, ↓k_e_chn6_eq, ↓k_e_chn5_eq, ↓k_e_chn4_eq, ↓k_e_chn3_eq, ↓k_e_chn2_eq, ↓k_e_chn1_eq, ↓e_chn, ↓callR_eq, ↓k_e_call1_eq, ↓e_call, ↓callbR_eq, ↓k_e_callb3_eq, ↓k_e_callb2_eq, ↓k_e_callb1_eq, ↓e_callb, ↓callkR_eq, ↓k_e_callk2_eq, ↓k_e_callk1_eq, ↓e_callk, ↓callvA_eq, ↓k_e_callv1_eq, ↓e_callv, ↓k_e_bi1_eq, ↓e_bi, ↓k_e_callx2_eq, ↓k_e_callx1_eq, ↓e_callx, ↓k_e_tx5_eq, ↓k_e_tx4_eq, ↓k_e_tx3_eq, ↓k_e_tx2_eq, ↓k_e_tx1_eq, ↓e_tx, ↓k_e_ix4_eq, ↓k_e_ix3_eq, ↓k_e_ix2_eq, ↓k_e_ix1_eq, ↓e_ix, ↓k_e_sl4_eq, ↓k_e_sl3_eq, ↓k_e_sl2_eq, ↓k_e_sl1_eq, ↓e_sl, ↓k_e_fmt2_eq, ↓k_e_fmt1_eq, ↓e_fmt, ↓k_e_revt2_eq, ↓k_e_revt1_eq, ↓e_revt, ↓k_e_js1_eq, ↓e_js, ↓dj_nil', ↓k_dj_cons'3_eq, ↓k_dj_cons'2_eq, ↓k_dj_cons'1_eq, ↓dj_cons', ↓k_e_rev2_eq, ↓k_e_rev1_eq, ↓e_rev, ↓eltM_eq, ↓k_e_comp2_eq, ↓k_e_comp1_eq, ↓e_comp, ↓e_pop0, ↓a_nil', ↓k_a_cons'3_eq, ↓k_a_cons'2_eq, ↓k_a_cons'1_eq, ↓a_cons', ↓d_nil', ↓k_d_cons'3_eq, ↓k_d_cons'2_eq, ↓k_d_cons'1_eq, ↓d_cons', ↓v_nil', ↓k_v_cons'3_eq, ↓k_v_cons'2_eq, ↓k_v_cons'1_eq, ↓v_cons', ↓k_i_zip'4_eq, ↓k_i_zip'3_eq, ↓k_i_zip'2_eq, ↓k_i_zip'1_eq, ↓i_zip', ↓k_i_zipL'4_eq, ↓k_i_zipL'3_eq, ↓k_i_zipL'2_eq, ↓k_i_zipL'1_eq, ↓i_zipL', ↓k_i_rng1'1_eq, ↓i_rng1', ↓k_i_rng2'3_eq, ↓k_i_rng2'2_eq, ↓k_i_rng2'1_eq, ↓i_rng2', ↓k_i_enm'2_eq, ↓k_i_enm'1_eq, ↓i_enm', ↓k_i_seqI'2_eq, ↓k_i_seqI'1_eq, ↓i_seqI', ↓partO_var, ↓condB_var, ↓partO_cst, ↓condB_cst, ↓partO_bin, ↓condB_bin, ↓partO_neg, ↓condB_neg, ↓partO_ix, ↓condB_ix, ↓partO_bi, ↓condB_bi, ↓partO_call, ↓condB_call, ↓partO_callb, ↓condB_callb, ↓partO_cmp, ↓condB_cmp, ↓partO_nt, ↓condB_nt, ↓partO_an, ↓condB_an, ↓partO_orr, ↓condB_orr, ↓partO_callk, ↓condB_callk, ↓partO_ite, ↓condB_ite, ↓partO_chn, ↓condB_chn, ↓partO_pop0, ↓condB_pop0, ↓st_skip', ↓k_st_seq'1_eq, ↓st_seq', ↓k_st_asg'3_eq, ↓k_st_asg'2_eq, ↓k_st_asg'1_eq, ↓st_asg', ↓k_st_asgT'3_eq, ↓k_st_asgT'2_eq, ↓k_st_asgT'1_eq, ↓st_asgT', ↓k_st_asgP'2_eq, ↓k_st_asgP'1_eq, ↓st_asgP', ↓k_st_ixs'7_eq, ↓k_st_ixs'6_eq, ↓k_st_ixs'5_eq, ↓k_st_ixs'4_eq, ↓k_st_ixs'3_eq, ↓k_st_ixs'2_eq, ↓k_st_ixs'1_eq, ↓st_ixs', ↓k_st_app'5_eq, ↓k_st_app'4_eq, ↓k_st_app'3_eq, ↓k_st_app'2_eq, ↓k_st_app'1_eq, ↓st_app', ↓k_st_exp'1_eq, ↓st_exp', ↓k_st_ret'1_eq, ↓st_ret', ↓k_st_ifs'1_eq, ↓st_ifs', ↓k_st_fr'1_eq, ↓st_fr', ↓st_rais', ↓k_ixM_eq5_eq, ↓k_ixM_eq4_eq, ↓k_ixM_eq3_eq, ↓k_ixM_eq2_eq, ↓k_ixM_eq1_eq, ↓ixM_eq, ↓st_ix2', ntB_eq, blK_eq, callvR_fn, okL_eq, nxK_eq, putK_eq, frK_eq, setVsK_eq, setTgsK_eq, consK_eq, frzsK_eq, someK_eq, partK_eq, lk0, il0, lk1, il1, lk2, il2, lk3, il3, lk4, il4, lk5, il5, lk6, il6, lk7, il7, lk8, il8, lk9, il9, lk10, il10, lk11, il11, lk12, il12, lk13, il13, lk14, il14, lk15, il15, lk16, il16, R.bind_ok, R.bind_exc, R.bind_bad, slE_fr, slE_own, slD_fr, slD_own, slF_fr, slF_own, slW_own, slR_fr, deref_fr, deref_own, deref_sl, frz_fr, frz_own, frz_sl, ownAt_eq, frAt_eq, ofO_some, ofO_none, rvB_fr, rvI_fr, andG_t, andG_f, orG_t, orG_f, ifR_t, ifR_f, okM_eq, badM_eq, pop0S_cons, seqOf_lst, seqOf_tup, zipM_l, zipM_t, zipLM_l, enmM_l, asExn_x, asStr_s, frzs_nil, frzs_cons, partO_nil, condB_nil, settle_fr, settle_own, stB_t, stB_f, settle_sl, noSl_fr, noSl_own, noSl_sl, setV_fr, setV_own, setV_sl, setVs_nil, setVs_cons, setTg_nm, setTg_tp, setTgs_nil, setTgs_cons, putM_eq, raiseM_eq, thenS_nx, thenS_ret, toM_fr, toM_own, toM_exc, toMb_fr, toMb_own, keep_exc, obs_mk, env_mk, finB_f, finB_t, endB_nx, endB_fr, endB_own, endS_own, endS_fr, endB_slf, endB_slt, endB_exc, ix2G_2, ix2K_eq, wipe_nil, wipe_cons, Nat.beq, sA0, sA1, sA2, sA3, sA4, sA5, sA6, sA7, sA8, sA9, sA10, sA11, sA12, sA13, sA14, sA15, sA16, sA17, sA18, sA19, sP0, sP1, sP2, sP3, sP4, sP5, sP6, sP7, sP8, sP9, sP10, sP11, sP12, sP13, sP14, sP15, sP16, sP17, sP18, sP19, o0_, o1_, o2_, o3_, o4_, o5_, o6_, o7_, o8_, o9_, o10_, o11_, o12_, o13_, o14_, o15_, o16_, o17_, o18_, o19_, o20_, o21_, o22_, o23_, o24_, o25_, o26_, o27_, o28_, o29_, o30_, o31_, o32_, o33_, o34_, o35_, o36_, o37_, o38_, o39_, o40_, o41_, o42_, o43_, o44_, o45_, o46_, o47_, o48_, o49_, o50_, o51_, o52_, o53_, o54_, o55_, o56_, o57_, o58_, o59_, o60_, o61_, o62_, o63_, o64_, o65_, o66_, turnR_eq, turnK_eq, cT4_eq, cT3_eq, cT0_eq, cT2_eq, cT1_eq, cTurn_eq, forGo_nil, atI0, atI1, atI2, atI3, pyEq_ii, pyEq_bb, Int.reduceBEq, Int.reduceLT, Int.reduceLE, Int.reduceAdd, Int.reduceSub, Int.reduceNeg, Int.reduceMul, decide_true, decide_false, Bool.not_true, Bool.not_false, Bool.false_and, Bool.true_and, Bool.and_true, Bool.and_false, Bool.or_false, Bool.false_or, Bool.true_or, Bool.or_true])
local macro_rules | `(tactic| walk_at "ev?") => `(tactic| (try simp only [↓e_var, ↓e_cst, ↓k_e_bin4_eq, ↓k_e_bin3_eq, ↓k_e_bin2_eq, ↓k_e_bin1_eq, ↓e_bin, ↓k_e_neg2_eq, ↓k_e_neg1_eq, ↓e_neg, ↓condE_eq, ↓k_e_nt1_eq, ↓e_nt, ↓k_e_an2_eq, ↓k_e_an1_eq, ↓e_an, ↓k_e_orr2_eq, ↓k_e_orr1_eq, ↓e_orr, ↓k_e_ite1_eq, ↓e_ite, ↓k_e_tup1_eq, ↓e_tup, ↓k_e_lst1_eq, ↓e_lst, ↓k_e_cmp4_eq, ↓k_e_cmp3_eq, ↓k_e_cmp2_eq, ↓k_e_cmp1_eq, ↓e_cmp, ↓k_chnR_eq3_eq, ↓k_chnR_eq2_eq, ↓k_chnR_eq1_eq, ↓chnR_eq, ↓k_e_chn6_eq, ↓k_e_chn5_eq, ↓k_e_chn4_eq, ↓k_e_chn3_eq, ↓k_e_chn2_eq, ↓k_e_chn1_eq, ↓e_chn, ↓callR_eq, ↓k_e_call1_eq, ↓e_call, ↓callbR_eq, ↓k_e_callb3_eq, ↓k_e_callb2_eq, ↓k_e_callb1_eq, ↓e_callb, ↓callkR_eq, ↓k_e_callk2_eq, ↓k_e_callk1_eq, ↓e_callk, ↓callvA_eq, ↓k_e_callv1_eq, ↓e_callv, ↓k_e_bi1_eq, ↓e_bi, ↓k_e_callx2_eq, ↓k_e_callx1_eq, ↓e_callx, ↓k_e_tx5_eq, ↓k_e_tx4_eq, ↓k_e_tx3_eq, ↓k_e_tx2_eq, ↓k_e_tx1_eq, ↓e_tx, ↓k_e_ix4_eq, ↓k_e_ix3_eq, ↓k_e_ix2_eq, ↓k_e_ix1_eq, ↓e_ix, ↓k_e_sl4_eq, ↓k_e_sl3_eq, ↓k_e_sl2_eq, ↓k_e_sl1_eq, ↓e_sl, ↓k_e_fmt2_eq, ↓k_e_fmt1_eq, ↓e_fmt, ↓k_e_revt2_eq, ↓k_e_revt1_eq, ↓e_revt, ↓k_e_js1_eq, ↓e_js, ↓dj_nil', ↓k_dj_cons'3_eq, ↓k_dj_cons'2_eq, ↓k_dj_cons'1_eq, ↓dj_cons', ↓k_e_rev2_eq, ↓k_e_rev1_eq, ↓e_rev, ↓eltM_eq, ↓k_e_comp2_eq, ↓k_e_comp1_eq, ↓e_comp, ↓e_pop0, ↓a_nil', ↓k_a_cons'3_eq, ↓k_a_cons'2_eq, ↓k_a_cons'1_eq, ↓a_cons', ↓d_nil', ↓k_d_cons'3_eq, ↓k_d_cons'2_eq, ↓k_d_cons'1_eq, ↓d_cons', ↓v_nil', ↓k_v_cons'3_eq, ↓k_v_cons'2_eq, ↓k_v_cons'1_eq, ↓v_cons', ↓k_i_zip'4_eq, ↓k_i_zip'3_eq, ↓k_i_zip'2_eq, ↓k_i_zip'1_eq, ↓i_zip', ↓k_i_zipL'4_eq, ↓k_i_zipL'3_eq, ↓k_i_zipL'2_eq, ↓k_i_zipL'1_eq, ↓i_zipL', ↓k_i_rng1'1_eq, ↓i_rng1', ↓k_i_rng2'3_eq, ↓k_i_rng2'2_eq, ↓k_i_rng2'1_eq, ↓i_rng2', ↓k_i_enm'2_eq, ↓k_i_enm'1_eq, ↓i_enm', ↓k_i_seqI'2_eq, ↓k_i_seqI'1_eq, ↓i_seqI', ↓partO_var, ↓condB_var, ↓partO_cst, ↓condB_cst, ↓partO_bin, ↓condB_bin, ↓partO_neg, ↓condB_neg, ↓partO_ix, ↓condB_ix, ↓partO_bi, ↓condB_bi, ↓partO_call, ↓condB_call, ↓partO_callb, ↓condB_callb, ↓partO_cmp, ↓condB_cmp, ↓partO_nt, ↓condB_nt, ↓partO_an, ↓condB_an, ↓partO_orr, ↓condB_orr, ↓partO_callk, ↓condB_callk, ↓partO_ite, ↓condB_ite, ↓partO_chn, ↓condB_chn, ↓partO_pop0, ↓condB_pop0, ↓st_skip', ↓k_st_seq'1_eq, ↓st_seq', ↓k_st_asg'3_eq, ↓k_st_asg'2_eq, ↓k_st_asg'1_eq, ↓st_asg', ↓k_st_asgT'3_eq, ↓k_st_asgT'2_eq, ↓k_st_asgT'1_eq, ↓st_asgT', ↓k_st_asgP'2_eq, ↓k_st_asgP'1_eq, ↓st_asgP', ↓k_st_ixs'7_eq, ↓k_st_ixs'6_eq, ↓k_st_ixs'5_eq, ↓k_st_ixs'4_eq, ↓k_st_ixs'3_eq, ↓k_st_ixs'2_eq, ↓k_st_ixs'1_eq, ↓st_ixs', ↓k_st_app'5_eq, ↓k_st_app'4_eq, ↓k_st_app'3_eq, ↓k_st_app'2_eq, ↓k_st_app'1_eq, ↓st_app', ↓k_st_exp'1_eq, ↓st_exp', ↓k_st_ret'1_eq, ↓st_ret', ↓k_st_ifs'1_eq, ↓st_ifs', ↓k_st_fr'1_eq, ↓st_fr', ↓st_rais', ↓k_ixM_eq5_eq, ↓k_ixM_eq4_eq, ↓k_ixM_eq3_eq, ↓k_ixM_eq2_eq, ↓k_ixM_eq1_eq, ↓ixM_eq, ↓st_ix2', ntB_eq, blK_eq, callvR_fn, okL_eq, nxK_eq, putK_eq, frK_eq, setVsK_eq, setTgsK_eq, consK_eq, frzsK_eq, someK_eq, partK_eq, lk0, il0, lk1, il1, lk2, il2, lk3, il3, lk4, il4, lk5, il5, lk6, il6, lk7, il7, lk8, il8, lk9, il9, lk10, il10, lk11, il11, lk12, il12, lk13, il13, lk14, il14, lk15, il15, lk16, il16, R.bind_ok, R.bind_exc, R.bind_bad, slE_fr, slE_own, slD_fr, slD_own, slF_fr, slF_own, slW_own, slR_fr, deref_fr, deref_own, deref_sl, frz_fr, frz_own, frz_sl, ownAt_eq, frAt_eq, ofO_some, ofO_none, rvB_fr, rvI_fr, andG_t, andG_f, orG_t, orG_f, ifR_t, ifR_f, okM_eq, badM_eq, pop0S_cons, seqOf_lst, seqOf_tup, zipM_l, zipM_t, zipLM_l, enmM_l, asExn_x, asStr_s, frzs_nil, frzs_cons, partO_nil, condB_nil, settle_fr, settle_own, stB_t, stB_f, settle_sl, noSl_fr, noSl_own, noSl_sl, setV_fr, setV_own, setV_sl, setVs_nil, setVs_cons, setTg_nm, setTg_tp, setTgs_nil, setTgs_cons, putM_eq, raiseM_eq, thenS_nx, thenS_ret, toM_fr, toM_own, toM_exc, toMb_fr, toMb_own, keep_exc, obs_mk, env_mk, finB_f, finB_t, endB_nx, endB_fr, endB_own, endS_own, endS_fr, endB_slf, endB_slt, endB_exc, ix2G_2, ix2K_eq, wipe_nil, wipe_cons, Nat.beq, sA0, sA1, sA2, sA3, sA4, sA5, sA6, sA7, sA8, sA9, sA10, sA11, sA12, sA13, sA14, sA15, sA16, sA17, sA18, sA19, sP0, sP1, sP2, sP3, sP4, sP5, sP6, sP7, sP8, sP9, sP10, sP11, sP12, sP13, sP14, sP15, sP16, sP17, sP18, sP19, o0_, o1_, o2_, o3_, o4_, o5_, o6_, o7_, o8_, o9_, o10_, o11_, o12_, o13_, o14_, o15_, o16_, o17_, o18_, o19_, o20_, o21_, o22_, o23_, o24_, o25_, o26_, o27_, o28_, o29_, o30_, o31_, o32_, o33_, o34_, o35_, o36_, o37_, o38_, o39_, o40_, o41_, o42_, o43_, o44_, o45_, o46_, o47_, o48_, o49_, o50_, o51_, o52_, o53_, o54_, o55_, o56_, o57_, o58_, o59_, o60_, o61_, o62_, o63_, o64_, o65_, o66_, turnR_eq, turnK_eq, cT4_eq, cT3_eq, cT0_eq, cT2_eq, cT1_eq, cTurn_eq, forGo_nil, atI0, atI1, atI2, atI3, pyEq_ii, pyEq_bb, Int.reduceBEq, Int.reduceLT, Int.reduceLE, Int.reduceAdd, Int.reduceSub, Int.reduceNeg, Int.reduceMul, decide_true, decide_false, Bool.not_true, Bool.not_false, Bool.false_and, Bool.true_and, Bool.and_true, Bool.and_false, Bool.or_false, Bool.false_or, Bool.true_or, Bool.or_true]))

def bodyX : Qv.St := match def17.body with
  | .seq _ (.seq (.fr _ _ b) _) => b
  | _ => .skip
theorem turnX {n : Nat} {ob : List Ob} {W : Nat} {d : Dd} {acc : List Str} {x0 x2 x3 : Qv.Slot} (sd : smallD W d) (hl : acc.length ≤ 1000) :
    turnR (setTg (.nm 2)) (dS (callF D n) bodyX) d.enc ⟨[x0, .own (.lst (acc.map .str)), x2, x3], ob⟩ = .ok .nx ⟨[x0, .own (.lst ((acc ++ [d.txt]).map .str)), .fr d.enc, .no], ob⟩ := by
  simp only [bodyX, def17]
  rw [enc_its]
  walk_at "ev"
  rw [comp_map (fun v => .str (itS v)) (by
    intro v hv
    refine ⟨⟨[_, _, _, .fr v], _⟩, ?_, rfl⟩
    walk_at "ev"
    rw [(its_facts sd v hv).2.2.2]; walk_at "ev") _ rfl]
  walk_at "ev"
  have ws := words_sum sd
  rw [opJoin (strL_map _ _) (by rw [its_words, bl_len]; omega)]; walk_at "ev"
  rw [appV_ok (by simp; omega)]; walk_at "ev"
  rw [its_words]
  simp only [List.map_append, List.map_cons, List.map_nil, Dd.txt]
theorem sLawText {n : Nat} {ob : List Ob} {W : Nat} {ds : List Dd} (h : Scr W ds 4 3) : callF D (n + 1) 17 [encS W ds] ob = .ok (.str (scT W ds)) false .non ob := by
  rw [c17]; simp only [def17, encS]
  have w3 := h.w3
  have nf := numT_len (i := W) (by omega) (by omega)
  have wf := wheels_facts
  have ls := lines_sum h
  walk_at "ev"
  rw [opStr nf.2.2.2]; walk_at "ev"
  rw [opAddS (by omega)]; walk_at "ev"
  have hlen := h.len
  obtain ⟨s', e, acc, ds', x2, x3, rfl, hv, hd, q⟩ := forGo_nx (g := setTg (.nm 2)) (b := dS (callF D n) bodyX)
    (fun vs s => ∃ (acc : List Str) (ds' : List Dd) (x2 x3 : Qv.Slot), s = ⟨[.fr (encS W ds), .own (.lst (acc.map .str)), x2, x3], ob⟩ ∧ vs = ds'.map Dd.enc ∧ (∀ d ∈ ds', smallD W d) ∧ acc ++ ds'.map Dd.txt = lines W ds)
    (by
      rintro v vs s ⟨acc, ds', x2, x3, rfl, hv, hd, q⟩
      cases ds' with
      | nil => cases hv
      | cons d ds' =>
        simp only [List.map_cons] at hv
        injection hv with hv1 hv2
        subst hv1
        have hl : acc.length ≤ 1000 := by
          have := congrArg List.length q
          simp [lines] at this; omega
        exact ⟨_, turnX (hd d (by simp)) hl, _, ds', _, _, rfl, hv2, fun d' h' => hd d' (by simp [h']), by rw [← q]; simp⟩)
    (ds.map Dd.enc) ⟨[.fr (encS W ds), .own (.lst [.str (("wheels " : Str) ++ numT W)]), .no, .no], ob⟩ ⟨[("wheels " : Str) ++ numT W], ds, _, _, rfl, rfl, fun d hd => ⟨h.ok d hd, w3⟩, rfl⟩
  unfold forR
  simp only [bodyX, def17, encS] at e
  rw [e]; walk_at "ev"
  cases ds' with
  | cons d ds' => cases hv
  | nil =>
    simp only [List.map_nil, List.append_nil] at q
    subst q
    rw [opJoin (strL_id _) (by rw [nl_len]; omega)]; walk_at "ev"
    rfl
theorem sScriptText {n : Nat} {ob : List Ob} {W : Nat} {ds : List Dd} (h : Scr W ds 4 3) : callF D (n + 5) 6 [encS W ds] ob = .ok (.str (scT W ds)) false .non ob := by
  rw [c6]; simp only [def6]
  walk_at "ev"
  rw [sNeedS (script_pl (W := W) (ds := ds) (by have := h.len; omega)) (by decide), goodScript_enc h]
  simp only [if_true]
  walk_at "ev"
  rw [sAsText h]; walk_at "ev"
theorem strBeq (x y : Str) : (x == y) = decide (TL.tl x = TL.tl y) := by
  by_cases h : x = y
  · subst h; simp
  · rw [beq_eq_false_iff_ne.mpr h, decide_eq_false (fun e => h (TL.ext_tl e))]
theorem tl_slice (z : Str) (lo hi : Option Int) : TL.tl (Txt.slice z lo hi) = ((TL.tl z).drop (HT.sIx z.length 0 lo)).take (HT.sIx z.length z.length hi - HT.sIx z.length 0 lo) := by
  rw [← C8.cutS_slice]; rfl
theorem tl_take1 (z : Str) : TL.tl (Txt.slice z none (some 1)) = (TL.tl z).take 1 := by
  rw [tl_slice, HT.sIx_none, List.drop_zero]
  have : HT.sIx z.length z.length (some 1) = min 1 z.length := rfl
  rw [this, Nat.sub_zero, len_tl]
  cases TL.tl z with
  | nil => rfl
  | cons c l => simp
theorem tl_drop1 (z : Str) : TL.tl (Txt.slice z (some 1) none) = (TL.tl z).drop 1 := by
  rw [tl_slice, HT.sIx_none]
  have : HT.sIx z.length 0 (some 1) = min 1 z.length := rfl
  rw [this, len_tl]
  cases TL.tl z with
  | nil => rfl
  | cons c l => simp
theorem tl_consts : TL.tl "-" = [45] ∧ TL.tl "" = [] ∧ TL.tl "-0" = [45, 48] ∧ TL.tl "0123456789" = [48, 49, 50, 51, 52, 53, 54, 55, 56, 57] ∧ PyData.strOk "-" = true ∧ PyData.strOk "" = true ∧ PyData.strOk "-0" = true := by decide +kernel
theorem slice_ok {z : Str} {lo hi : Option Int} (h : PyData.strOk z = true) : PyData.strOk (Txt.slice z lo hi) = true := strOk_iff.mpr fun c hc => by
  rw [tl_slice] at hc
  exact strOk_iff.mp h c (List.mem_of_mem_drop (List.mem_of_mem_take hc))
theorem slice_len (z : Str) (lo hi : Option Int) : (Txt.slice z lo hi).length ≤ z.length := Txt.slice_le z lo hi
theorem opNinS {c : Nat} {x z : Str} (h : TL.tl x = [c]) : opCmp .nin (.str x) (.str z) = some (!decide (c ∈ TL.tl z)) := by
  have e : x = ⟨#[c]⟩ := TL.ext_tl (by rw [h])
  subst e
  show some (!(!(Builtin.Str.occurrences z ⟨#[c]⟩ 0 z.length 1).isEmpty)) = _
  rw [StrLaws.found_one]
theorem dig_mem {c : Nat} : decide (c ∈ [48, 49, 50, 51, 52, 53, 54, 55, 56, 57]) = decide (48 ≤ c ∧ c ≤ 57) := by
  apply decide_eq_decide.mpr
  simp only [List.mem_cons, List.not_mem_nil, or_false]
  omega
theorem opLenS {z : Str} (h : z.length ≤ 16000000) : opBi .len [.str z] = some (.fr (.int z.length)) := by
  simp only [opBi, lenOk_le h, if_true]
theorem numL_neg {l : List Nat} (h : l.take 1 = [45]) : numL l = (if (l.drop 1).length = 1 ∧ (∀ c ∈ l.drop 1, 48 ≤ c ∧ c ≤ 57) ∧ l ≠ [45, 48] then numL l else none) ∧ ((l.drop 1).length = 1 ∧ (∀ c ∈ l.drop 1, 48 ≤ c ∧ c ≤ 57) ∧ l ≠ [45, 48] → (numL l).isSome) := by
  match l, h with
  | [a], h =>
    simp at h; subst h
    simp [numL]
  | [a, c], h =>
    simp at h; subst h
    by_cases hc : 49 ≤ c ∧ c ≤ 57
    · have : 48 ≤ c ∧ c ≤ 57 ∧ c ≠ 48 := by omega
      simp [numL, hc, this]
    · constructor
      · split
        · rename_i q; exfalso; simp at q; omega
        · simp [numL, hc]
      · rintro ⟨_, q1, q2⟩
        exfalso; simp at q1 q2; omega
  | a :: b :: c :: r, h => simp [numL]
theorem numL_pos {l : List Nat} (h : ¬ l.take 1 = [45]) : numL l = (if l.length = 1 ∧ (∀ c ∈ l, 48 ≤ c ∧ c ≤ 57) ∧ l ≠ [45, 48] then numL l else none) ∧ (l.length = 1 ∧ (∀ c ∈ l, 48 ≤ c ∧ c ≤ 57) ∧ l ≠ [45, 48] → (numL l).isSome) := by
  match l, h with
  | [], h => simp [numL]
  | [a], h =>
    by_cases hc : 48 ≤ a ∧ a ≤ 57
    · simp [numL, hc]
    · simp [numL, hc]
  | [a, c], h =>
    simp at h
    simp [numL, h]
  | a :: b :: c :: r, h => simp [numL]
theorem sLawInt {n : Nat} {ob : List Ob} {w : Str} (hw : PyData.strOk w = true) (hl : w.length ≤ 1000000) : callF D (n + 1) 18 [.str w] ob = .ok (lawInt w) false .non ob := by
  rw [c18]; simp only [def18]
  obtain ⟨k1, k2, k3, k4, o1, o2, o3⟩ := tl_consts
  have l1 := slice_len w none (some 1)
  have l2 := slice_len w (some 1) none
  have so1 := slice_ok (lo := none) (hi := some 1) hw
  have so2 := slice_ok (lo := some 1) (hi := none) hw
  have wlen := len_tl w
  have blen := len_tl (Txt.slice w (some 1) none)
  walk_at "ev"
  rw [opSlS (by omega)]; walk_at "ev"
  rw [pyEq_ss so1 o1, strBeq, tl_take1, k1]; walk_at "ev"
  unfold lawInt numW
  rw [tl_drop1] at blen
  have fin : ∀ (bare : Str) (x : Option Int), PyData.strOk bare = true → bare.length ≤ 1000000 → (x = (if (TL.tl bare).length = 1 ∧ (∀ c ∈ TL.tl bare, 48 ≤ c ∧ c ≤ 57) ∧ TL.tl w ≠ [45, 48] then numW w else none)) → ((TL.tl bare).length = 1 ∧ (∀ c ∈ TL.tl bare, 48 ≤ c ∧ c ≤ 57) ∧ TL.tl w ≠ [45, 48] → (numW w).isSome) →
      endB false (R.bind (dS (callF D n) (hdS (dropS 1 def18.body)) ⟨[.fr (.str w), .fr (.str bare)], ob⟩) (k_st_seq'1 (callF D n) (dropS 2 def18.body))) = .ok (match x with | some i => PV.int i | none => .non) false .non ob := by
    intro bare x hb hbl hx hsome
    simp only [def18, dropS, hdS]
    walk_at "ev"
    rw [pyEq_ss hb o2, strBeq, k2]; walk_at "ev"
    have bl := len_tl bare
    cases hbt : TL.tl bare with
    | nil =>
      simp only [decide_true]
      walk_at "ev"
      rw [hx, hbt]; simp
    | cons c r =>
      have e : decide (c :: r = ([] : List Nat)) = false := by simp
      rw [e]; walk_at "ev"
      rw [opLenS (by omega)]; walk_at "ev"
      cases r with
      | cons c2 r2 =>
        have e : decide ((1 : Int) < (bare.length : Int)) = true := by rw [bl, hbt]; simp; omega
        rw [e]; walk_at "ev"
        rw [hx, hbt]; simp
      | nil =>
        have e : decide ((1 : Int) < (bare.length : Int)) = false := by rw [bl, hbt]; rfl
        rw [e]; walk_at "ev"
        rw [opNinS hbt, k4, dig_mem]; walk_at "ev"
        by_cases hd : 48 ≤ c ∧ c ≤ 57
        · simp only [hd, and_self, decide_true]
          walk_at "ev"
          rw [pyEq_ss hw o3, strBeq, k3]; walk_at "ev"
          by_cases h0 : TL.tl w = [45, 48]
          · simp only [h0, decide_true]
            walk_at "ev"
            rw [hx]; simp [h0]
          · simp only [h0, decide_false]
            walk_at "ev"
            have hc : (TL.tl bare).length = 1 ∧ (∀ c ∈ TL.tl bare, 48 ≤ c ∧ c ≤ 57) ∧ TL.tl w ≠ [45, 48] := ⟨by rw [hbt]; rfl, by rw [hbt]; intro c' h'; simp at h'; subst h'; exact hd, h0⟩
            obtain ⟨i, hi⟩ := Option.isSome_iff_exists.mp (hsome hc)
            rw [hx, if_pos hc, hi]
            obtain ⟨i0, i1, ew⟩ := numT_numW hi
            have := numT_len i0 i1
            rw [opIntS (by rw [ew]; omega) (by rw [ew]; exact intText_numT i0 i1)]
            walk_at "ev"
        · simp only [hd, decide_false]
          walk_at "ev"
          rw [hx, if_neg (fun z => hd (z.2.1 c (by rw [hbt]; simp)))]
  by_cases hm : (TL.tl w).take 1 = [45]
  · have h := fin (Txt.slice w (some 1) none) (numL (TL.tl w)) so2 (by omega) (by rw [tl_drop1]; exact (numL_neg hm).1) (by rw [tl_drop1]; exact (numL_neg hm).2)
    revert h
    simp only [hm, def18, dropS, hdS, decide_true]
    walk_at "ev"
    rw [opSlS (by omega)]; walk_at "ev"
    all_goals exact id
  · have h := fin w (numL (TL.tl w)) hw hl (numL_pos hm).1 (numL_pos hm).2
    revert h
    simp only [hm, def18, dropS, hdS, decide_false]
    walk_at "ev"
    all_goals exact id
end K14.P
end
section
set_option Elab.async false
set_option linter.all false
set_option autoImplicit true
set_option maxRecDepth 100000
set_option maxHeartbeats 4000000
namespace K14.P
open PySem Qv
local macro_rules | `(tactic| walk_at "ev") => `(tactic| simp only [↓e_var, ↓e_cst, ↓k_e_bin4_eq, ↓k_e_bin3_eq, ↓k_e_bin2_eq, ↓k_e_bin1_eq, ↓e_bin, ↓k_e_neg2_eq, ↓k_e_neg1_eq, ↓e_neg, ↓condE_eq, ↓k_e_nt1_eq, ↓e_nt, ↓k_e_an2_eq, ↓k_e_an1_eq, ↓e_an, ↓k_e_orr2_eq, ↓k_e_orr1_eq, ↓e_orr, ↓k_e_ite1_eq, ↓e_ite, ↓k_e_tup1_eq, ↓e_tup, ↓k_e_lst1_eq, ↓e_lst, ↓k_e_cmp4_eq, ↓k_e_cmp3_eq, ↓k_e_cmp2_eq, ↓k_e_cmp1_eq, ↓e_cmp, ↓k_chnR_eq3_eq, ↓k_chnR_eq2_eq, ↓k_chnR_eq1_eq, ↓chnR_eq, ↓k_e_chn6_eq, ↓k_e_chn5_eq, ↓k_e_chn4_eq, ↓k_e_chn3_eq, ↓k_e_chn2_eq, ↓k_e_chn1_eq, ↓e_chn, ↓callR_eq, ↓k_e_call1_eq, ↓e_call, ↓callbR_eq, ↓k_e_callb3_eq, ↓k_e_callb2_eq, ↓k_e_callb1_eq, ↓e_callb, ↓callkR_eq, ↓k_e_callk2_eq, ↓k_e_callk1_eq, ↓e_callk, ↓callvA_eq, ↓k_e_callv1_eq, ↓e_callv, ↓k_e_bi1_eq, ↓e_bi, ↓k_e_callx2_eq, ↓k_e_callx1_eq, ↓e_callx, ↓k_e_tx5_eq, ↓k_e_tx4_eq, ↓k_e_tx3_eq, ↓k_e_tx2_eq, ↓k_e_tx1_eq, ↓e_tx, ↓k_e_ix4_eq, ↓k_e_ix3_eq, ↓k_e_ix2_eq, ↓k_e_ix1_eq, ↓e_ix, ↓k_e_sl4_eq, ↓k_e_sl3_eq, ↓k_e_sl2_eq, ↓k_e_sl1_eq, ↓e_sl, ↓k_e_fmt2_eq, ↓k_e_fmt1_eq, ↓e_fmt, ↓k_e_revt2_eq, ↓k_e_revt1_eq, ↓e_revt, ↓k_e_js1_eq, ↓e_js, ↓dj_nil', ↓k_dj_cons'3_eq, ↓k_dj_cons'2_eq, ↓k_dj_cons'1_eq, ↓dj_cons', ↓k_e_rev2_eq, ↓k_e_rev1_eq, ↓e_rev, ↓eltM_eq, ↓k_e_comp2_eq, ↓k_e_comp1_eq, ↓e_comp, ↓e_pop0, ↓a_nil', ↓k_a_cons'3_eq, ↓k_a_cons'2_eq, ↓k_a_cons'1_eq, ↓a_cons', ↓d_nil', ↓k_d_cons'3_eq, ↓k_d_cons'2_eq, ↓k_d_cons'1_eq, ↓d_cons', ↓v_nil', ↓k_v_cons'3_eq, ↓k_v_cons'2_eq, ↓k_v_cons'1_eq, ↓v_cons', ↓k_i_zip'4_eq, ↓k_i_zip'3_eq, ↓k_i_zip'2_eq, ↓k_i_zip'1_eq, ↓i_zip', ↓k_i_zipL'4_eq, ↓k_i_zipL'3_eq, ↓k_i_zipL'2_eq, ↓k_i_zipL'1_eq, ↓i_zipL', ↓k_i_rng1'1_eq, ↓i_rng1', ↓k_i_rng2'3_eq, ↓k_i_rng2'2_eq, ↓k_i_rng2'1_eq, ↓i_rng2', ↓k_i_enm'2_eq, ↓k_i_enm'1_eq, ↓i_enm', ↓k_i_seqI'2_eq, ↓k_i_seqI'1_eq, ↓i_seqI', ↓partO_var, ↓condB_var, ↓partO_cst, ↓condB_cst, ↓partO_bin, ↓condB_bin, ↓partO_neg, ↓condB_neg, ↓partO_ix, ↓condB_ix, ↓partO_bi, ↓condB_bi, ↓partO_call, ↓condB_call, ↓partO_callb, ↓condB_callb, ↓partO_cmp, ↓condB_cmp, ↓partO_nt, ↓condB_nt, ↓partO_an, ↓condB_an, ↓partO_orr, ↓condB_orr, ↓partO_callk, ↓condB_callk, ↓partO_ite, ↓condB_ite, ↓partO_chn, ↓condB_chn, ↓partO_pop0, ↓condB_pop0, ↓st_skip', ↓k_st_seq'1_eq, ↓st_seq', ↓k_st_asg'3_eq, ↓k_st_asg'2_eq, ↓k_st_asg'1_eq, ↓st_asg', ↓k_st_asgT'3_eq, ↓k_st_asgT'2_eq, ↓k_st_asgT'1_eq, ↓st_asgT', ↓k_st_asgP'2_eq, ↓k_st_asgP'1_eq, ↓st_asgP', ↓k_st_ixs'7_eq, ↓k_st_ixs'6_eq, ↓k_st_ixs'5_eq, ↓k_st_ixs'4_eq, ↓k_st_ixs'3_eq, ↓k_st_ixs'2_eq, ↓k_st_ixs'1_eq, ↓st_ixs', ↓k_st_app'5_eq, ↓k_st_app'4_eq, ↓k_st_app'3_eq, ↓k_st_app'2_eq, ↓k_st_app'1_eq, ↓st_app', ↓k_st_exp'1_eq, ↓st_exp', ↓k_st_ret'1_eq, ↓st_ret', ↓k_st_ifs'1_eq, ↓st_ifs', ↓k_st_fr'1_eq, ↓st_fr', ↓st_rais', ↓k_ixM_eq5_eq, ↓k_ixM_eq4_eq, ↓k_ixM_eq3_eq, ↓k_ixM_eq2_eq, ↓k_ixM_eq1_eq, ↓ixM_eq, ↓st_ix2', ntB_eq, blK_eq, callvR_fn, okL_eq, nxK_eq, putK_eq, frK_eq, setVsK_eq, setTgsK_eq, consK_eq, frzsK_eq, someK_eq, partK_eq, lk0, il0, lk1, il1, lk2, il2, lk3, il3, lk4, il4, lk5, il5, lk6, il6, lk7, il7, lk8, il8, lk9, il9, lk10, il10, lk11, il11, lk12, il12, lk13, il13, lk14, il14, lk15, il15, lk16, il16, R.bind_ok, R.bind_exc, R.bind_bad, slE_fr, slE_own, slD_fr, slD_own, slF_fr, slF_own, slW_own, slR_fr, deref_fr, deref_own, deref_sl, frz_fr, frz_own, frz_sl, ownAt_eq, frAt_eq, ofO_some, ofO_none, rvB_fr, rvI_fr, andG_t, andG_f, orG_t, orG_f, ifR_t, ifR_f, okM_eq, badM_eq, pop0S_cons, seqOf_lst, seqOf_tup, zipM_l, zipM_t, zipLM_l, enmM_l, asExn_x, asStr_s, frzs_nil, frzs_cons, partO_nil, condB_nil, settle_fr, settle_own, stB_t, stB_f, settle_sl, noSl_fr, noSl_own, noSl_sl, setV_fr, setV_own, setV_sl, setVs_nil, setVs_cons, setTg_nm, setTg_tp, setTgs_nil, setTgs_cons, putM_eq, raiseM_eq, thenS_nx, thenS_ret, toM_fr, toM_own, toM_exc, toMb_fr, toMb_own, keep_exc, obs_mk, env_mk, finB_f, finB_t, endB_nx, endB_fr, endB_own, endS_own, endS_fr, endB_slf, endB_slt, endB_exc, ix2G_2, ix2K_eq, wipe_nil, wipe_cons, Nat.beq, sA0, sA1, sA2, sA3, sA4, sA5, sA6, sA7, sA8, sA9, sA10, sA11, sA12, sA13, sA14, sA15, sA16, sA17, sA18, sA19, sP0, sP1, sP2, sP3, sP4, sP5, sP6, sP7, sP8, sP9, sP10, sP11, sP12, sP13, sP14, sP15, sP16, sP17, sP18, sP19, o0_, o1_, o2_, o3_, o4_, o5_, o6_, o7_, o8_, o9_, o10_, o11_, o12_, o13_, o14_, o15_, o16_, o17_, o18_, o19_, o20_, o21_, o22_, o23_, o24_, o25_, o26_, o27_, o28_, o29_, o30_, o31_, o32_, o33_, o34_, o35_, o36_, o37_, o38_, o39_, o40_, o41_, o42_, o43_, o44_, o45_, o46_, o47_, o48_, o49_, o50_, o51_, o52_, o53_, o54_, o55_, o56_, o57_, o58_, o59_, o60_, o61_, o62_, o63_, o64_, o65_, o66_, turnR_eq, turnK_eq, cT4_eq, cT3_eq, cT0_eq, cT2_eq, cT1_eq, cTurn_eq, forGo_nil, atI0, atI1, atI2, atI3, pyEq_ii, pyEq_bb, Int.reduceBEq, Int.reduceLT, Int.reduceLE, Int.reduceAdd, Int.reduceSub, Int.reduceNeg, Int.reduceMul, decide_true, decide_false, Bool.not_true, Bool.not_false, Bool.false_and, Bool.true_and, Bool.and_true, Bool.and_false, Bool.or_false, Bool.false_or, Bool.true_or, Bool.or_true])
local macro_rules | `(tactic| walk_at "ev?") => `(tactic| (try simp only [↓e_var, ↓e_cst, ↓k_e_bin4_eq, ↓k_e_bin3_eq, ↓k_e_bin2_eq, ↓k_e_bin1_eq, ↓e_bin, ↓k_e_neg2_eq, ↓k_e_neg1_eq, ↓e_neg, ↓condE_eq, ↓k_e_nt1_eq, ↓e_nt, ↓k_e_an2_eq, ↓k_e_an1_eq, ↓e_an, ↓k_e_orr2_eq, ↓k_e_orr1_eq, ↓e_orr, ↓k_e_ite1_eq, ↓e_ite, ↓k_e_tup1_eq, ↓e_tup, ↓k_e_lst1_eq, ↓e_lst, ↓k_e_cmp4_eq, ↓k_e_cmp3_eq, ↓k_e_cmp2_eq, ↓k_e_cmp1_eq, ↓e_cmp, ↓k_chnR_eq3_eq, ↓k_chnR_eq2_eq, ↓k_chnR_eq1_eq, ↓chnR_eq, ↓k_e_chn6_eq, ↓k_e_chn5_eq, ↓k_e_chn4_eq, ↓k_e_chn3_eq, ↓k_e_chn2_eq, ↓k_e_chn1_eq, ↓e_chn, ↓callR_eq, ↓k_e_call1_eq, ↓e_call, ↓callbR_eq, ↓k_e_callb3_eq, ↓k_e_callb2_eq, ↓k_e_callb1_eq, ↓e_callb, ↓callkR_eq, ↓k_e_callk2_eq, ↓k_e_callk1_eq, ↓e_callk, ↓callvA_eq, ↓k_e_callv1_eq, ↓e_callv, ↓k_e_bi1_eq, ↓e_bi, ↓k_e_callx2_eq, ↓k_e_callx1_eq, ↓e_callx, ↓k_e_tx5_eq, ↓k_e_tx4_eq, ↓k_e_tx3_eq, ↓k_e_tx2_eq, ↓k_e_tx1_eq, ↓e_tx, ↓k_e_ix4_eq, ↓k_e_ix3_eq, ↓k_e_ix2_eq, ↓k_e_ix1_eq, ↓e_ix, ↓k_e_sl4_eq, ↓k_e_sl3_eq, ↓k_e_sl2_eq, ↓k_e_sl1_eq, ↓e_sl, ↓k_e_fmt2_eq, ↓k_e_fmt1_eq, ↓e_fmt, ↓k_e_revt2_eq, ↓k_e_revt1_eq, ↓e_revt, ↓k_e_js1_eq, ↓e_js, ↓dj_nil', ↓k_dj_cons'3_eq, ↓k_dj_cons'2_eq, ↓k_dj_cons'1_eq, ↓dj_cons', ↓k_e_rev2_eq, ↓k_e_rev1_eq, ↓e_rev, ↓eltM_eq, ↓k_e_comp2_eq, ↓k_e_comp1_eq, ↓e_comp, ↓e_pop0, ↓a_nil', ↓k_a_cons'3_eq, ↓k_a_cons'2_eq, ↓k_a_cons'1_eq, ↓a_cons', ↓d_nil', ↓k_d_cons'3_eq, ↓k_d_cons'2_eq, ↓k_d_cons'1_eq, ↓d_cons', ↓v_nil', ↓k_v_cons'3_eq, ↓k_v_cons'2_eq, ↓k_v_cons'1_eq, ↓v_cons', ↓k_i_zip'4_eq, ↓k_i_zip'3_eq, ↓k_i_zip'2_eq, ↓k_i_zip'1_eq, ↓i_zip', ↓k_i_zipL'4_eq, ↓k_i_zipL'3_eq, ↓k_i_zipL'2_eq, ↓k_i_zipL'1_eq, ↓i_zipL', ↓k_i_rng1'1_eq, ↓i_rng1', ↓k_i_rng2'3_eq, ↓k_i_rng2'2_eq, ↓k_i_rng2'1_eq, ↓i_rng2', ↓k_i_enm'2_eq, ↓k_i_enm'1_eq, ↓i_enm', ↓k_i_seqI'2_eq, ↓k_i_seqI'1_eq, ↓i_seqI', ↓partO_var, ↓condB_var, ↓partO_cst, ↓condB_cst, ↓partO_bin, ↓condB_bin, ↓partO_neg, ↓condB_neg, ↓partO_ix, ↓condB_ix, ↓partO_bi, ↓condB_bi, ↓partO_call, ↓condB_call, ↓partO_callb, ↓condB_callb, ↓partO_cmp, ↓condB_cmp, ↓partO_nt, ↓condB_nt, ↓partO_an, ↓condB_an, ↓partO_orr, ↓condB_orr, ↓partO_callk, ↓condB_callk, ↓partO_ite, ↓condB_ite, ↓partO_chn, ↓condB_chn, ↓partO_pop0, ↓condB_pop0, ↓st_skip', ↓k_st_seq'1_eq, ↓st_seq', ↓k_st_asg'3_eq, ↓k_st_asg'2_eq, ↓k_st_asg'1_eq, ↓st_asg', ↓k_st_asgT'3_eq, ↓k_st_asgT'2_eq, ↓k_st_asgT'1_eq, ↓st_asgT', ↓k_st_asgP'2_eq, ↓k_st_asgP'1_eq, ↓st_asgP', ↓k_st_ixs'7_eq, ↓k_st_ixs'6_eq, ↓k_st_ixs'5_eq, ↓k_st_ixs'4_eq, ↓k_st_ixs'3_eq, ↓k_st_ixs'2_eq, ↓k_st_ixs'1_eq, ↓st_ixs', ↓k_st_app'5_eq, ↓k_st_app'4_eq, ↓k_st_app'3_eq, ↓k_st_app'2_eq, ↓k_st_app'1_eq, ↓st_app', ↓k_st_exp'1_eq, ↓st_exp', ↓k_st_ret'1_eq, ↓st_ret', ↓k_st_ifs'1_eq, ↓st_ifs', ↓k_st_fr'1_eq, ↓st_fr', ↓st_rais', ↓k_ixM_eq5_eq, ↓k_ixM_eq4_eq, ↓k_ixM_eq3_eq, ↓k_ixM_eq2_eq, ↓k_ixM_eq1_eq, ↓ixM_eq, ↓st_ix2', ntB_eq, blK_eq, callvR_fn, okL_eq, nxK_eq, putK_eq, frK_eq, setVsK_eq, setTgsK_eq, consK_eq, frzsK_eq, someK_eq, partK_eq, lk0, il0, lk1, il1, lk2, il2, lk3, il3, lk4, il4, lk5, il5, lk6, il6, lk7, il7, lk8, il8, lk9, il9, lk10, il10, lk11, il11, lk12, il12, lk13, il13, lk14, il14, lk15, il15, lk16, il16, R.bind_ok, R.bind_exc, R.bind_bad, slE_fr, slE_own, slD_fr, slD_own, slF_fr, slF_own, slW_own, slR_fr, deref_fr, deref_own, deref_sl, frz_fr, frz_own, frz_sl, ownAt_eq, frAt_eq, ofO_some, ofO_none, rvB_fr, rvI_fr, andG_t, andG_f, orG_t, orG_f, ifR_t, ifR_f, okM_eq, badM_eq, pop0S_cons, seqOf_lst, seqOf_tup, zipM_l, zipM_t, zipLM_l, enmM_l, asExn_x, asStr_s, frzs_nil, frzs_cons, partO_nil, condB_nil, settle_fr, settle_own, stB_t, stB_f, settle_sl, noSl_fr, noSl_own, noSl_sl, setV_fr, setV_own, setV_sl, setVs_nil, setVs_cons, setTg_nm, setTg_tp, setTgs_nil, setTgs_cons, putM_eq, raiseM_eq, thenS_nx, thenS_ret, toM_fr, toM_own, toM_exc, toMb_fr, toMb_own, keep_exc, obs_mk, env_mk, finB_f, finB_t, endB_nx, endB_fr, endB_own, endS_own, endS_fr, endB_slf, endB_slt, endB_exc, ix2G_2, ix2K_eq, wipe_nil, wipe_cons, Nat.beq, sA0, sA1, sA2, sA3, sA4, sA5, sA6, sA7, sA8, sA9, sA10, sA11, sA12, sA13, sA14, sA15, sA16, sA17, sA18, sA19, sP0, sP1, sP2, sP3, sP4, sP5, sP6, sP7, sP8, sP9, sP10, sP11, sP12, sP13, sP14, sP15, sP16, sP17, sP18, sP19, o0_, o1_, o2_, o3_, o4_, o5_, o6_, o7_, o8_, o9_, o10_, o11_, o12_, o13_, o14_, o15_, o16_, o17_, o18_, o19_, o20_, o21_, o22_, o23_, o24_, o25_, o26_, o27_, o28_, o29_, o30_, o31_, o32_, o33_, o34_, o35_, o36_, o37_, o38_, o39_, o40_, o41_, o42_, o43_, o44_, o45_, o46_, o47_, o48_, o49_, o50_, o51_, o52_, o53_, o54_, o55_, o56_, o57_, o58_, o59_, o60_, o61_, o62_, o63_, o64_, o65_, o66_, turnR_eq, turnK_eq, cT4_eq, cT3_eq, cT0_eq, cT2_eq, cT1_eq, cTurn_eq, forGo_nil, atI0, atI1, atI2, atI3, pyEq_ii, pyEq_bb, Int.reduceBEq, Int.reduceLT, Int.reduceLE, Int.reduceAdd, Int.reduceSub, Int.reduceNeg, Int.reduceMul, decide_true, decide_false, Bool.not_true, Bool.not_false, Bool.false_and, Bool.true_and, Bool.and_true, Bool.and_false, Bool.or_false, Bool.false_or, Bool.true_or, Bool.or_true]))

def rowI (l : Str) : List PV := (Txt.split l blS).map itemIn
def rowsI (t : Str) : List (List PV) := (Txt.split t nlS).map rowI
/-- what the program reads -/
def readF (t : Str) : PV := .tup [((rowsI t).headD []).getLastD .non, .tup ((rowsI t).tail.map .tup)]
theorem rowsI_ne (t : Str) : rowsI t ≠ [] := by
  unfold rowsI; intro h; exact split_ne t nlS (List.map_eq_nil_iff.mp h)
theorem rowI_ne (t : Str) : rowI t ≠ [] := by
  unfold rowI; intro h; exact split_ne t blS (List.map_eq_nil_iff.mp h)
theorem itemIn_pl {w : Str} (h : PyData.strOk w = true) : PL L 0 (itemIn w) := by
  unfold itemIn; split
  · exact .int
  · exact .str h
theorem rowI_pl {l : Str} {L : Nat} (h : PyData.strOk l = true) (hl : l.length + 1 ≤ L) : PL L 1 (.tup (rowI l)) := by
  refine .tup ?_ fun x hx => ?_
  · have := split_cnt (x := l) bl_len
    simp [rowI]; omega
  · obtain ⟨w, hw, rfl⟩ := List.mem_map.mp hx
    exact itemIn_pl (split_ok h hw)
theorem readF_pl {t : Str} {L : Nat} (h : PyData.strOk t = true) (hl : t.length + 2 ≤ L) : PL L 4 (readF t) := by
  have hr : ∀ r ∈ rowsI t, PL L 1 (.tup r) := by
    intro r hr
    obtain ⟨l, hl', rfl⟩ := List.mem_map.mp hr
    have := split_lens (x := t) nl_len hl'
    exact rowI_pl (split_ok h hl') (by omega)
  refine .tup (by simp; omega) fun x hx => ?_
  simp only [List.mem_cons, List.not_mem_nil, or_false] at hx
  rcases hx with rfl | rfl
  · cases hc : rowsI t with
    | nil => exact .non
    | cons r rs =>
      simp only [List.headD_cons]
      have pr := hr r (by rw [hc]; simp)
      cases hr' : r with
      | nil => exact .non
      | cons x xs =>
        cases pr with
        | tup a b =>
          have : PL L 0 ((x :: xs).getLastD .non) := by
            apply b
            rw [hr', List.getLastD_cons]; exact List.getLastD_mem_cons
          exact this.mono (Nat.le_refl _) (by omega)
  · refine PL.mono (d := 2) (L := L) (.tup ?_ fun x hx => ?_) (Nat.le_refl _) (by omega)
    · have := split_cnt (x := t) nl_len
      simp [rowsI]; omega
    · obtain ⟨r, hr', rfl⟩ := List.mem_map.mp hx
      exact hr r (List.mem_of_mem_tail hr')
theorem goodScript_dec {v : PV} {L d : Nat} (hp : PL L d v) (h : goodScript v = true) : ∃ W ds, v = encS W ds ∧ Scr W ds 4 3 := by
  unfold goodScript at h
  split at h
  · rename_i w ds
    split at h
    · rename_i k
      simp only [isW, Bool.and_eq_true, decide_eq_true_eq] at h
      obtain ⟨⟨k1, k3⟩, hl, hall⟩ := h
      have key : ∀ ds : List PV, (∀ d ∈ ds, goodDeed k d = true) → ∃ es : List Dd, ds = es.map Dd.enc ∧ ∀ e ∈ es, e.good k.toNat := by
        intro ds
        induction ds with
        | nil => exact fun _ => ⟨[], rfl, by simp⟩
        | cons v ds ih =>
          intro hd
          obtain ⟨es, rfl, hes⟩ := ih fun d h => hd d (by simp [h])
          have hv := hd v (by simp)
          have : ∃ e : Dd, v = e.enc ∧ e.good k.toNat := by
            unfold goodDeed at hv
            split at hv
            · rename_i z a
              simp only [Bool.and_eq_true, beq_iff_eq] at hv
              obtain ⟨ha, rfl⟩ := hv
              unfold isW at ha
              split at ha
              · rename_i i
                simp only [Bool.and_eq_true, decide_eq_true_eq] at ha
                refine ⟨.zero i.toNat, ?_, ?_⟩
                · have e : ((i.toNat : Nat) : Int) = i := by omega
                  simp only [Dd.enc, e]
                · show i.toNat < k.toNat; omega
              · cases ha
            · rename_i z a m
              simp only [Bool.and_eq_true, beq_iff_eq, Bool.or_eq_true] at hv
              obtain ⟨ha, hz, hm, hm0⟩ := hv
              unfold isW at ha hm
              split at ha
              · rename_i i
                split at hm
                · rename_i j
                  simp only [Bool.and_eq_true, decide_eq_true_eq] at ha hm
                  have hj : j ≠ 0 := by intro z; subst z; simp [eqP_ii] at hm0
                  rcases hz with rfl | rfl
                  · refine ⟨.push i.toNat j, ?_, ?_⟩
                    · have e : ((i.toNat : Nat) : Int) = i := by omega
                      simp only [Dd.enc, e]
                    · exact ⟨by omega, hm.1, hm.2, hj⟩
                  · refine ⟨.turn i.toNat j, ?_, ?_⟩
                    · have e : ((i.toNat : Nat) : Int) = i := by omega
                      simp only [Dd.enc, e]
                    · exact ⟨by omega, hm.1, hm.2, hj⟩
                · cases hm
              · cases ha
            · cases hv
          obtain ⟨e, rfl, he⟩ := this
          exact ⟨e :: es, rfl, by intro x hx; rcases List.mem_cons.mp hx with rfl | hx; exact he; exact hes x hx⟩
      obtain ⟨es, rfl, hes⟩ := key ds (List.all_eq_true.mp hall)
      refine ⟨k.toNat, es, ?_, by omega, by omega, by simpa using hl, hes⟩
      simp only [encS]; congr 3; omega
    · cases h
  · cases h
/-- the text of a script -/
def TextOf (t : Str) (W : Nat) (ds : List Dd) : Prop := Scr W ds 4 3 ∧ scT W ds = t
def lawRow (l : Str) : PV := .tup (.str ((Txt.split l blS).headD Str.empty) :: (Txt.split l blS).tail.map lawInt)
def headW (t : Str) : List Str := Txt.split ((Txt.split t nlS).headD Str.empty) blS
def lawV (t : Str) : PV := .tup [lawInt ((headW t).getD 1 Str.empty), .tup ((Txt.split t nlS).tail.map lawRow)]
def lawC (t : Str) : Prop := (headW t).headD Str.empty = "wheels" ∧ (headW t).length = 2
theorem lawInt_numT {i : Int} (h : -9 ≤ i) (h' : i ≤ 9) : lawInt (numT i) = .int i := by unfold lawInt; rw [numW_numT h h']
theorem itemIn_numT {i : Int} (h : -9 ≤ i) (h' : i ≤ 9) : itemIn (numT i) = .int i := by unfold itemIn; rw [numW_numT h h']
theorem numW_word : numW "push" = none ∧ numW "turn" = none ∧ numW "zero" = none ∧ numW "wheels" = none := by decide +kernel
theorem words_free {W : Nat} {d : Dd} (h : smallD W d) : ∀ w ∈ d.words, ∀ c ∈ TL.tl w, c ≠ 10 ∧ c ≠ 32 := by
  intro w hw
  rw [← its_words] at hw
  obtain ⟨v, hv, rfl⟩ := List.mem_map.mp hw
  exact (its_facts h v hv).2.2.1
theorem split_txt {W : Nat} {d : Dd} (h : smallD W d) : Txt.split d.txt blS = d.words := by
  unfold Dd.txt
  rw [blS_eq]
  exact split_join 32 (by decide) (words_sum h).2.2 fun p hp hc => (words_free h p hp 32 hc).2 rfl
theorem head_line (W : Nat) : ("wheels " : Str) ++ numT W = Txt.join blS [("wheels" : Str), numT W] := by
  rw [wheels_facts.2.2.2.1, TL.join_eq]; rfl
theorem split_head {W : Nat} (h : W ≤ 3) : Txt.split (("wheels " : Str) ++ numT W) blS = [("wheels" : Str), numT W] := by
  rw [head_line, blS_eq]
  refine split_join 32 (by decide) (by simp) fun p hp hc => ?_
  simp only [List.mem_cons, List.not_mem_nil, or_false] at hp
  rcases hp with rfl | rfl
  · exact (wheels_facts.2.2.2.2.2.2 32 hc).2 rfl
  · exact ((numT_len (i := W) (by omega) (by omega)).2.2.1 32 hc).2 rfl
theorem lines_free {W : Nat} {ds : List Dd} (h : Scr W ds 4 3) : ∀ l ∈ lines W ds, 10 ∉ TL.tl l := by
  intro l hl hc
  have w3 := h.w3
  rcases List.mem_cons.mp hl with rfl | hl
  · rw [TL.tl_append] at hc
    rcases List.mem_append.mp hc with hc | hc
    · exact wheels_facts.2.2.1 10 hc rfl
    · exact ((numT_len (i := W) (by omega) (by omega)).2.2.1 10 hc).1 rfl
  · obtain ⟨d, hd, rfl⟩ := List.mem_map.mp hl
    unfold Dd.txt at hc
    rw [tl_join] at hc
    rcases joinL_mem' hc with hc | ⟨p, hp, hc⟩
    · have : TL.tl blS = [32] := by decide +kernel
      rw [this] at hc; simp at hc
    · obtain ⟨q, hq, rfl⟩ := List.mem_map.mp hp
      exact (words_free ⟨h.ok d hd, h.w3⟩ q hq 10 hc).1 rfl
theorem split_text {t : Str} {W : Nat} {ds : List Dd} (h : TextOf t W ds) : Txt.split t nlS = lines W ds := by
  rw [← h.2, scT, nlS_eq]
  exact split_join 10 (by decide) (by simp [lines]) (lines_free h.1)
theorem word_push : ∀ s : Str, (s = "push" ∨ s = "turn" ∨ s = "zero") → itemIn s = .str s := by
  intro s hs
  unfold itemIn
  rcases hs with rfl | rfl | rfl
  · rw [numW_word.1]
  · rw [numW_word.2.1]
  · rw [numW_word.2.2.1]
theorem row_txt {W : Nat} {d : Dd} (h : smallD W d) : rowI d.txt = d.its ∧ lawRow d.txt = d.enc := by
  unfold rowI lawRow
  rw [split_txt h]
  obtain ⟨h, hW⟩ := h
  cases d with
  | push w m =>
    obtain ⟨h1, h2, h3, h4⟩ := h
    constructor
    · simp only [Dd.words, Dd.its, List.map_cons, List.map_nil, word_push "push" (.inl rfl), itemIn_numT (i := (w : Int)) (by omega) (by omega), itemIn_numT h2 h3]
    · simp only [Dd.words, Dd.enc, List.headD_cons, List.tail_cons, List.map_cons, List.map_nil, lawInt_numT (i := (w : Int)) (by omega) (by omega), lawInt_numT h2 h3]
  | turn w m =>
    obtain ⟨h1, h2, h3, h4⟩ := h
    constructor
    · simp only [Dd.words, Dd.its, List.map_cons, List.map_nil, word_push "turn" (.inr (.inl rfl)), itemIn_numT (i := (w : Int)) (by omega) (by omega), itemIn_numT h2 h3]
    · simp only [Dd.words, Dd.enc, List.headD_cons, List.tail_cons, List.map_cons, List.map_nil, lawInt_numT (i := (w : Int)) (by omega) (by omega), lawInt_numT h2 h3]
  | zero w =>
    have h : w < W := h
    constructor
    · simp only [Dd.words, Dd.its, List.map_cons, List.map_nil, word_push "zero" (.inr (.inr rfl)), itemIn_numT (i := (w : Int)) (by omega) (by omega)]
    · simp only [Dd.words, Dd.enc, List.headD_cons, List.tail_cons, List.map_cons, List.map_nil, lawInt_numT (i := (w : Int)) (by omega) (by omega)]
theorem textA {t : Str} {W : Nat} {ds : List Dd} (h : TextOf t W ds) : readF t = encS W ds ∧ lawC t ∧ lawV t = encS W ds := by
  have hs := split_text h
  have w3 := h.1.w3
  have sd : ∀ d ∈ ds, smallD W d := fun d hd => ⟨h.1.ok d hd, w3⟩
  have hh : headW t = [("wheels" : Str), numT W] := by
    unfold headW; rw [hs]; exact split_head w3
  refine ⟨?_, ?_, ?_⟩
  · unfold readF rowsI
    rw [hs]
    simp only [lines, List.map_cons, List.headD_cons, List.tail_cons, List.map_map]
    have e1 : rowI (("wheels " : Str) ++ numT W) = [.str "wheels", .int W] := by
      unfold rowI; rw [split_head w3]
      simp only [List.map_cons, List.map_nil, itemIn_numT (i := (W : Int)) (by omega) (by omega)]
      congr 1
    rw [e1]
    simp only [encS]
    congr 2
    · congr 2
      apply List.map_congr_left
      intro d hd
      simp only [Function.comp, (row_txt (sd d hd)).1, enc_its]
  · unfold lawC; rw [hh]; exact ⟨rfl, rfl⟩
  · unfold lawV
    rw [hh, hs]
    simp only [lines, List.tail_cons, List.map_map]
    have e1 : lawInt (([("wheels" : Str), numT W] : List Str).getD 1 Str.empty) = .int W := lawInt_numT (i := (W : Int)) (by omega) (by omega)
    rw [e1]
    simp only [encS]
    congr 4
    apply List.map_congr_left
    intro d hd
    exact (row_txt (sd d hd)).2
theorem lawInt_int {w : Str} {i : Int} (h : lawInt w = .int i) : w = numT i := by
  unfold lawInt at h
  split at h
  · rename_i j e
    cases h
    exact (numT_numW e).2.2
  · cases h
theorem row_back {l : Str} {d : Dd} (h : lawRow l = d.enc) : l = d.txt := by
  have e := join_split l blS
  unfold lawRow at h
  unfold Dd.txt
  rw [← e]
  congr 1
  cases hs : Txt.split l blS with
  | nil => exact absurd hs (split_ne _ _)
  | cons a r =>
    rw [hs] at h
    simp only [List.headD_cons, List.tail_cons] at h
    cases d with
    | push w m =>
      simp only [Dd.enc] at h
      match r, h with
      | [x, y], h =>
        simp only [List.map_cons, List.map_nil, PV.tup.injEq, List.cons.injEq, PV.str.injEq, and_true] at h
        simp only [Dd.words, h.1, lawInt_int h.2.1, lawInt_int h.2.2]
      | [], h => simp at h
      | [_], h => simp at h
      | _ :: _ :: _ :: _, h => simp at h
    | turn w m =>
      simp only [Dd.enc] at h
      match r, h with
      | [x, y], h =>
        simp only [List.map_cons, List.map_nil, PV.tup.injEq, List.cons.injEq, PV.str.injEq, and_true] at h
        simp only [Dd.words, h.1, lawInt_int h.2.1, lawInt_int h.2.2]
      | [], h => simp at h
      | [_], h => simp at h
      | _ :: _ :: _ :: _, h => simp at h
    | zero w =>
      simp only [Dd.enc] at h
      match r, h with
      | [x], h =>
        simp only [List.map_cons, List.map_nil, PV.tup.injEq, List.cons.injEq, PV.str.injEq, and_true] at h
        simp only [Dd.words, h.1, lawInt_int h.2]
      | [], h => simp at h
      | _ :: _ :: _, h => simp at h
theorem rows_back : ∀ {ls : List Str} {ds : List Dd}, ls.map lawRow = ds.map Dd.enc → ls = ds.map Dd.txt
  | [], [], _ => rfl
  | [], _ :: _, h => by simp at h
  | _ :: _, [], h => by simp at h
  | l :: ls, d :: ds, h => by
    simp only [List.map_cons, List.cons.injEq] at h
    rw [List.map_cons, row_back h.1, rows_back h.2]
theorem lawV_pl {t : Str} {L : Nat} (h : PyData.strOk t = true) (hl : t.length + 2 ≤ L) : PL L 4 (lawV t) := by
  have li : ∀ w, PL L 0 (lawInt w) := fun w => by
    unfold lawInt; split
    · exact .int
    · exact .non
  have hr : ∀ l ∈ Txt.split t nlS, PL L 1 (lawRow l) := by
    intro l hl'
    have a := split_lens (x := t) nl_len hl'
    have b := split_cnt (x := l) bl_len
    have c := split_ok h hl'
    refine .tup (by simp; omega) fun x hx => ?_
    rcases List.mem_cons.mp hx with rfl | hx
    · cases hs : Txt.split l blS with
      | nil => exact .str (by decide +kernel)
      | cons z r => exact .str (split_ok c (by rw [hs]; simp))
    · obtain ⟨w, _, rfl⟩ := List.mem_map.mp hx
      exact li w
  refine .tup (by simp; omega) fun x hx => ?_
  simp only [List.mem_cons, List.not_mem_nil, or_false] at hx
  rcases hx with rfl | rfl
  · exact (li _).mono (Nat.le_refl _) (by omega)
  · refine PL.mono (d := 2) (L := L) (.tup ?_ fun x hx => ?_) (Nat.le_refl _) (by omega)
    · have := split_cnt (x := t) nl_len
      simp; omega
    · obtain ⟨r, hr', rfl⟩ := List.mem_map.mp hx
      exact hr r (List.mem_of_mem_tail hr')
theorem textB {t : Str} (h : PyData.strOk t = true) (hc : lawC t) (hg : goodScript (lawV t) = true) : ∃ W ds, TextOf t W ds := by
  obtain ⟨W, ds, e, hs⟩ := goodScript_dec (lawV_pl (L := t.length + 2) h (Nat.le_refl _)) hg
  refine ⟨W, ds, hs, ?_⟩
  simp only [lawV, encS, PV.tup.injEq, List.cons.injEq, and_true] at e
  obtain ⟨e1, e2⟩ := e
  have e2 := rows_back e2
  have ej := join_split t nlS
  unfold scT
  rw [← ej]
  congr 1
  obtain ⟨c1, c2⟩ := hc
  unfold headW at c1 c2 e1
  cases hsp : Txt.split t nlS with
  | nil => exact absurd hsp (split_ne _ _)
  | cons l0 ls =>
    rw [hsp] at c1 c2 e1 e2
    simp only [List.headD_cons, List.tail_cons] at c1 c2 e1 e2
    have ej0 := join_split l0 blS
    match hw : Txt.split l0 blS, c2 with
    | [a, w1], _ =>
      rw [hw] at c1 e1 ej0
      have c1' : a = "wheels" := c1
      have e1' : w1 = numT W := lawInt_int (show lawInt w1 = .int W from e1)
      rw [c1', e1', ← head_line] at ej0
      simp only [lines, ← e2, ej0]
end K14.P
end
section
set_option Elab.async false
set_option linter.all false
set_option autoImplicit true
set_option maxRecDepth 100000
set_option maxHeartbeats 4000000
namespace K14.P
open PySem Qv
local macro_rules | `(tactic| walk_at "ev") => `(tactic| simp only [↓e_var, ↓e_cst, ↓k_e_bin4_eq, ↓k_e_bin3_eq, ↓k_e_bin2_eq, ↓k_e_bin1_eq, ↓e_bin, ↓k_e_neg2_eq, ↓k_e_neg1_eq, ↓e_neg, ↓condE_eq, ↓k_e_nt1_eq, ↓e_nt, ↓k_e_an2_eq, ↓k_e_an1_eq, ↓e_an, ↓k_e_orr2_eq, ↓k_e_orr1_eq, ↓e_orr, ↓k_e_ite1_eq, ↓e_ite, ↓k_e_tup1_eq, ↓e_tup, ↓k_e_lst1_eq, ↓e_lst, ↓k_e_cmp4_eq, ↓k_e_cmp3_eq, ↓k_e_cmp2_eq, ↓k_e_cmp1_eq, ↓e_cmp, ↓k_chnR_eq3_eq, ↓k_chnR_eq2_eq, ↓k_chnR_eq1_eq, ↓chnR_eq, ↓k_e_chn6_eq, ↓k_e_chn5_eq, ↓k_e_chn4_eq, ↓k_e_chn3_eq, ↓k_e_chn2_eq, ↓k_e_chn1_eq, ↓e_chn, ↓callR_eq, ↓k_e_call1_eq, ↓e_call, ↓callbR_eq, ↓k_e_callb3_eq, ↓k_e_callb2_eq, ↓k_e_callb1_eq, ↓e_callb, ↓callkR_eq, ↓k_e_callk2_eq, ↓k_e_callk1_eq, ↓e_callk, ↓callvA_eq, ↓k_e_callv1_eq, ↓e_callv, ↓k_e_bi1_eq, ↓e_bi, ↓k_e_callx2_eq, ↓k_e_callx1_eq, ↓e_callx, ↓k_e_tx5_eq, ↓k_e_tx4_eq, ↓k_e_tx3_eq, ↓k_e_tx2_eq, ↓k_e_tx1_eq, ↓e_tx, ↓k_e_ix4_eq, ↓k_e_ix3_eq, ↓k_e_ix2_eq, ↓k_e_ix1_eq, ↓e_ix, ↓k_e_sl4_eq, ↓k_e_sl3_eq, ↓k_e_sl2_eq, ↓k_e_sl1_eq, ↓e_sl, ↓k_e_fmt2_eq, ↓k_e_fmt1_eq, ↓e_fmt, ↓k_e_revt2_eq, ↓k_e_revt1_eq, ↓e_revt, ↓k_e_js1_eq, ↓e_js, ↓dj_nil', ↓k_dj_cons'3_eq, ↓k_dj_cons'2_eq, ↓k_dj_cons'1_eq, ↓dj_cons', ↓k_e_rev2_eq, ↓k_e_rev1_eq, ↓e_rev, ↓eltM_eq, ↓k_e_comp2_eq, ↓k_e_comp1_eq, ↓e_comp, ↓e_pop0, ↓a_nil', ↓k_a_cons'3_eq, ↓k_a_cons'2_eq, ↓k_a_cons'1_eq, ↓a_cons', ↓d_nil', ↓k_d_cons'3_eq, ↓k_d_cons'2_eq, ↓k_d_cons'1_eq, ↓d_cons', ↓v_nil', ↓k_v_cons'3_eq, ↓k_v_cons'2_eq, ↓k_v_cons'1_eq, ↓v_cons', ↓k_i_zip'4_eq, ↓k_i_zip'3_eq, ↓k_i_zip'2_eq, ↓k_i_zip'1_eq, ↓i_zip', ↓k_i_zipL'4_eq, ↓k_i_zipL'3_eq, ↓k_i_zipL'2_eq, ↓k_i_zipL'1_eq, ↓i_zipL', ↓k_i_rng1'1_eq, ↓i_rng1', ↓k_i_rng2'3_eq, ↓k_i_rng2'2_eq, ↓k_i_rng2'1_eq, ↓i_rng2', ↓k_i_enm'2_eq, ↓k_i_enm'1_eq, ↓i_enm', ↓k_i_seqI'2_eq, ↓k_i_seqI'1_eq, ↓i_seqI', ↓partO_var, ↓condB_var, ↓partO_cst, ↓condB_cst, ↓partO_bin, ↓condB_bin, ↓partO_neg, ↓condB_neg, ↓partO_ix, ↓condB_ix, ↓partO_bi, ↓condB_bi, ↓partO_call, ↓condB_call, ↓partO_callb, ↓condB_callb, ↓partO_cmp, ↓condB_cmp, ↓partO_nt, ↓condB_nt, ↓partO_an, ↓condB_an, ↓partO_orr, ↓condB_orr, ↓partO_callk, ↓condB_callk, ↓partO_ite, ↓condB_ite, ↓partO_chn, ↓condB_chn, ↓partO_pop0, ↓condB_pop0, ↓st_skip', ↓k_st_seq'1_eq, ↓st_seq', ↓k_st_asg'3_eq, ↓k_st_asg'2_eq, ↓k_st_asg'1_eq, ↓st_asg', ↓k_st_asgT'3_eq, ↓k_st_asgT'2_eq, ↓k_st_asgT'1_eq, ↓st_asgT', ↓k_st_asgP'2_eq, ↓k_st_asgP'1_eq, ↓st_asgP', ↓k_st_ixs'7_eq, ↓k_st_ixs'6_eq, ↓k_st_ixs'5_eq, ↓k_st_ixs'4_eq, ↓k_st_ixs'3_eq, ↓k_st_ixs'2_eq, ↓k_st_ixs'1_eq, ↓st_ixs', ↓k_st_app'5_eq, ↓k_st_app'4_eq, ↓k_st_app'3_eq, ↓k_st_app'2_eq, ↓k_st_app'1_eq, ↓st_app', ↓k_st_exp'1_eq, ↓st_exp', ↓k_st_ret'1_eq, ↓st_ret', ↓k_st_ifs'1_eq, ↓st_ifs', ↓k_st_fr'1_eq, ↓st_fr', ↓st_rais', ↓k_ixM_eq5_eq, ↓k_ixM_eq4_eq, ↓k_ixM_eq3_eq, ↓k_ixM_eq2_eq, ↓k_ixM_eq1_eq, ↓ixM_eq, ↓st_ix2', ntB_eq, blK_eq, callvR_fn, okL_eq, nxK_eq, putK_eq, frK_eq, setVsK_eq, setTgsK_eq, consK_eq, frzsK_eq, someK_eq, partK_eq, lk0, il0, lk1, il1, lk2, il2, lk3, il3, lk4, il4, lk5, il5, lk6, il6, lk7, il7, lk8, il8, lk9, il9, lk10, il10, lk11, il11, lk12, il12, lk13, il13, lk14, il14, lk15, il15, lk16, il16, R.bind_ok, R.bind_exc, R.bind_bad, slE_fr, slE_own, slD_fr, slD_own, slF_fr, slF_own, slW_own, slR_fr, deref_fr, deref_own, deref_sl, frz_fr, frz_own, frz_sl, ownAt_eq, frAt_eq, ofO_some, ofO_none, rvB_fr, rvI_fr, andG_t, andG_f, orG_t, orG_f, ifR_t, ifR_f, okM_eq, badM_eq, pop0S_cons, seqOf_lst, seqOf_tup, zipM_l, zipM_t, zipLM_l, enmM_l, asExn_x, asStr_s, frzs_nil, frzs_cons, partO_nil, condB_nil, settle_fr, settle_own, stB_t, stB_f, settle_sl, noSl_fr, noSl_own, noSl_sl, setV_fr, setV_own, setV_sl, setVs_nil, setVs_cons, setTg_nm, setTg_tp, setTgs_nil, setTgs_cons, putM_eq, raiseM_eq, thenS_nx, thenS_ret, toM_fr, toM_own, toM_exc, toMb_fr, toMb_own, keep_exc, obs_mk, env_mk, finB_f, finB_t, endB_nx, endB_fr, endB_own, endS_own, endS_fr, endB_slf, endB_slt, endB_exc, ix2G_2, ix2K_eq, wipe_nil, wipe_cons, Nat.beq, sA0, sA1, sA2, sA3, sA4, sA5, sA6, sA7, sA8, sA9, sA10, sA11, sA12, sA13, sA14, sA15, sA16, sA17, sA18, sA19, sP0, sP1, sP2, sP3, sP4, sP5, sP6, sP7, sP8, sP9, sP10, sP11, sP12, sP13, sP14, sP15, sP16, sP17, sP18, sP19, o0_, o1_, o2_, o3_, o4_, o5_, o6_, o7_, o8_, o9_, o10_, o11_, o12_, o13_, o14_, o15_, o16_, o17_, o18_, o19_, o20_, o21_, o22_, o23_, o24_, o25_, o26_, o27_, o28_, o29_, o30_, o31_, o32_, o33_, o34_, o35_, o36_, o37_, o38_, o39_, o40_, o41_, o42_, o43_, o44_, o45_, o46_, o47_, o48_, o49_, o50_, o51_, o52_, o53_, o54_, o55_, o56_, o57_, o58_, o59_, o60_, o61_, o62_, o63_, o64_, o65_, o66_, turnR_eq, turnK_eq, cT4_eq, cT3_eq, cT0_eq, cT2_eq, cT1_eq, cTurn_eq, forGo_nil, atI0, atI1, atI2, atI3, pyEq_ii, pyEq_bb, Int.reduceBEq, Int.reduceLT, Int.reduceLE, Int.reduceAdd, Int.reduceSub, Int.reduceNeg, Int.reduceMul, decide_true, decide_false, Bool.not_true, Bool.not_false, Bool.false_and, Bool.true_and, Bool.and_true, Bool.and_false, Bool.or_false, Bool.false_or, Bool.true_or, Bool.or_true])
local macro_rules | `(tactic| walk_at "ev?") => `(tactic| (try simp only [↓e_var, ↓e_cst, ↓k_e_bin4_eq, ↓k_e_bin3_eq, ↓k_e_bin2_eq, ↓k_e_bin1_eq, ↓e_bin, ↓k_e_neg2_eq, ↓k_e_neg1_eq, ↓e_neg, ↓condE_eq, ↓k_e_nt1_eq, ↓e_nt, ↓k_e_an2_eq, ↓k_e_an1_eq, ↓e_an, ↓k_e_orr2_eq, ↓k_e_orr1_eq, ↓e_orr, ↓k_e_ite1_eq, ↓e_ite, ↓k_e_tup1_eq, ↓e_tup, ↓k_e_lst1_eq, ↓e_lst, ↓k_e_cmp4_eq, ↓k_e_cmp3_eq, ↓k_e_cmp2_eq, ↓k_e_cmp1_eq, ↓e_cmp, ↓k_chnR_eq3_eq, ↓k_chnR_eq2_eq, ↓k_chnR_eq1_eq, ↓chnR_eq, ↓k_e_chn6_eq, ↓k_e_chn5_eq, ↓k_e_chn4_eq, ↓k_e_chn3_eq, ↓k_e_chn2_eq, ↓k_e_chn1_eq, ↓e_chn, ↓callR_eq, ↓k_e_call1_eq, ↓e_call, ↓callbR_eq, ↓k_e_callb3_eq, ↓k_e_callb2_eq, ↓k_e_callb1_eq, ↓e_callb, ↓callkR_eq, ↓k_e_callk2_eq, ↓k_e_callk1_eq, ↓e_callk, ↓callvA_eq, ↓k_e_callv1_eq, ↓e_callv, ↓k_e_bi1_eq, ↓e_bi, ↓k_e_callx2_eq, ↓k_e_callx1_eq, ↓e_callx, ↓k_e_tx5_eq, ↓k_e_tx4_eq, ↓k_e_tx3_eq, ↓k_e_tx2_eq, ↓k_e_tx1_eq, ↓e_tx, ↓k_e_ix4_eq, ↓k_e_ix3_eq, ↓k_e_ix2_eq, ↓k_e_ix1_eq, ↓e_ix, ↓k_e_sl4_eq, ↓k_e_sl3_eq, ↓k_e_sl2_eq, ↓k_e_sl1_eq, ↓e_sl, ↓k_e_fmt2_eq, ↓k_e_fmt1_eq, ↓e_fmt, ↓k_e_revt2_eq, ↓k_e_revt1_eq, ↓e_revt, ↓k_e_js1_eq, ↓e_js, ↓dj_nil', ↓k_dj_cons'3_eq, ↓k_dj_cons'2_eq, ↓k_dj_cons'1_eq, ↓dj_cons', ↓k_e_rev2_eq, ↓k_e_rev1_eq, ↓e_rev, ↓eltM_eq, ↓k_e_comp2_eq, ↓k_e_comp1_eq, ↓e_comp, ↓e_pop0, ↓a_nil', ↓k_a_cons'3_eq, ↓k_a_cons'2_eq, ↓k_a_cons'1_eq, ↓a_cons', ↓d_nil', ↓k_d_cons'3_eq, ↓k_d_cons'2_eq, ↓k_d_cons'1_eq, ↓d_cons', ↓v_nil', ↓k_v_cons'3_eq, ↓k_v_cons'2_eq, ↓k_v_cons'1_eq, ↓v_cons', ↓k_i_zip'4_eq, ↓k_i_zip'3_eq, ↓k_i_zip'2_eq, ↓k_i_zip'1_eq, ↓i_zip', ↓k_i_zipL'4_eq, ↓k_i_zipL'3_eq, ↓k_i_zipL'2_eq, ↓k_i_zipL'1_eq, ↓i_zipL', ↓k_i_rng1'1_eq, ↓i_rng1', ↓k_i_rng2'3_eq, ↓k_i_rng2'2_eq, ↓k_i_rng2'1_eq, ↓i_rng2', ↓k_i_enm'2_eq, ↓k_i_enm'1_eq, ↓i_enm', ↓k_i_seqI'2_eq, ↓k_i_seqI'1_eq, ↓i_seqI', ↓partO_var, ↓condB_var, ↓partO_cst, ↓condB_cst, ↓partO_bin, ↓condB_bin, ↓partO_neg, ↓condB_neg, ↓partO_ix, ↓condB_ix, ↓partO_bi, ↓condB_bi, ↓partO_call, ↓condB_call, ↓partO_callb, ↓condB_callb, ↓partO_cmp, ↓condB_cmp, ↓partO_nt, ↓condB_nt, ↓partO_an, ↓condB_an, ↓partO_orr, ↓condB_orr, ↓partO_callk, ↓condB_callk, ↓partO_ite, ↓condB_ite, ↓partO_chn, ↓condB_chn, ↓partO_pop0, ↓condB_pop0, ↓st_skip', ↓k_st_seq'1_eq, ↓st_seq', ↓k_st_asg'3_eq, ↓k_st_asg'2_eq, ↓k_st_asg'1_eq, ↓st_asg', ↓k_st_asgT'3_eq, ↓k_st_asgT'2_eq, ↓k_st_asgT'1_eq, ↓st_asgT', ↓k_st_asgP'2_eq, ↓k_st_asgP'1_eq, ↓st_asgP', ↓k_st_ixs'7_eq, ↓k_st_ixs'6_eq, ↓k_st_ixs'5_eq, ↓k_st_ixs'4_eq, ↓k_st_ixs'3_eq, ↓k_st_ixs'2_eq, ↓k_st_ixs'1_eq, ↓st_ixs', ↓k_st_app'5_eq, ↓k_st_app'4_eq, ↓k_st_app'3_eq, ↓k_st_app'2_eq, ↓k_st_app'1_eq, ↓st_app', ↓k_st_exp'1_eq, ↓st_exp', ↓k_st_ret'1_eq, ↓st_ret', ↓k_st_ifs'1_eq, ↓st_ifs', ↓k_st_fr'1_eq, ↓st_fr', ↓st_rais', ↓k_ixM_eq5_eq, ↓k_ixM_eq4_eq, ↓k_ixM_eq3_eq, ↓k_ixM_eq2_eq, ↓k_ixM_eq1_eq, ↓ixM_eq, ↓st_ix2', ntB_eq, blK_eq, callvR_fn, okL_eq, nxK_eq, putK_eq, frK_eq, setVsK_eq, setTgsK_eq, consK_eq, frzsK_eq, someK_eq, partK_eq, lk0, il0, lk1, il1, lk2, il2, lk3, il3, lk4, il4, lk5, il5, lk6, il6, lk7, il7, lk8, il8, lk9, il9, lk10, il10, lk11, il11, lk12, il12, lk13, il13, lk14, il14, lk15, il15, lk16, il16, R.bind_ok, R.bind_exc, R.bind_bad, slE_fr, slE_own, slD_fr, slD_own, slF_fr, slF_own, slW_own, slR_fr, deref_fr, deref_own, deref_sl, frz_fr, frz_own, frz_sl, ownAt_eq, frAt_eq, ofO_some, ofO_none, rvB_fr, rvI_fr, andG_t, andG_f, orG_t, orG_f, ifR_t, ifR_f, okM_eq, badM_eq, pop0S_cons, seqOf_lst, seqOf_tup, zipM_l, zipM_t, zipLM_l, enmM_l, asExn_x, asStr_s, frzs_nil, frzs_cons, partO_nil, condB_nil, settle_fr, settle_own, stB_t, stB_f, settle_sl, noSl_fr, noSl_own, noSl_sl, setV_fr, setV_own, setV_sl, setVs_nil, setVs_cons, setTg_nm, setTg_tp, setTgs_nil, setTgs_cons, putM_eq, raiseM_eq, thenS_nx, thenS_ret, toM_fr, toM_own, toM_exc, toMb_fr, toMb_own, keep_exc, obs_mk, env_mk, finB_f, finB_t, endB_nx, endB_fr, endB_own, endS_own, endS_fr, endB_slf, endB_slt, endB_exc, ix2G_2, ix2K_eq, wipe_nil, wipe_cons, Nat.beq, sA0, sA1, sA2, sA3, sA4, sA5, sA6, sA7, sA8, sA9, sA10, sA11, sA12, sA13, sA14, sA15, sA16, sA17, sA18, sA19, sP0, sP1, sP2, sP3, sP4, sP5, sP6, sP7, sP8, sP9, sP10, sP11, sP12, sP13, sP14, sP15, sP16, sP17, sP18, sP19, o0_, o1_, o2_, o3_, o4_, o5_, o6_, o7_, o8_, o9_, o10_, o11_, o12_, o13_, o14_, o15_, o16_, o17_, o18_, o19_, o20_, o21_, o22_, o23_, o24_, o25_, o26_, o27_, o28_, o29_, o30_, o31_, o32_, o33_, o34_, o35_, o36_, o37_, o38_, o39_, o40_, o41_, o42_, o43_, o44_, o45_, o46_, o47_, o48_, o49_, o50_, o51_, o52_, o53_, o54_, o55_, o56_, o57_, o58_, o59_, o60_, o61_, o62_, o63_, o64_, o65_, o66_, turnR_eq, turnK_eq, cT4_eq, cT3_eq, cT0_eq, cT2_eq, cT1_eq, cTurn_eq, forGo_nil, atI0, atI1, atI2, atI3, pyEq_ii, pyEq_bb, Int.reduceBEq, Int.reduceLT, Int.reduceLE, Int.reduceAdd, Int.reduceSub, Int.reduceNeg, Int.reduceMul, decide_true, decide_false, Bool.not_true, Bool.not_false, Bool.false_and, Bool.true_and, Bool.and_true, Bool.and_false, Bool.or_false, Bool.false_or, Bool.true_or, Bool.or_true]))

theorem atI_m1 {xs : List PV} (h : xs ≠ []) : L2.atI xs (-1) = some (xs.getLastD .non) := by
  unfold L2.atI L2.ixN
  have : 0 < xs.length := List.length_pos_iff.mpr h
  rw [if_neg (by decide), if_pos (by omega)]
  have e : (-1 + (xs.length : Int)).toNat = xs.length - 1 := by omega
  simp only [Option.bind_some, e]
  cases xs with
  | nil => exact absurd rfl h
  | cons x r =>
    rw [List.getLastD_eq_getLast?, List.getLast?_eq_getElem?]
    simp
theorem cut_1 (xs : List PV) : cutP xs (some 1) none = xs.tail := by
  unfold cutP
  have e1 : HT.sIx xs.length 0 (some 1) = min 1 xs.length := rfl
  rw [e1, HT.sIx_none]
  cases xs with
  | nil => rfl
  | cons x r => simp
theorem sReadRaw {n : Nat} {ob : List Ob} {t : Str} (ht : PyData.strOk t = true) (hl : t.length ≤ 1000000) :
    ((∃ W ds, TextOf t W ds ∧ callF D (n + 4) 8 [.str t] ob = .ok (encS W ds) false .non ob) ∨ ((∀ W ds, ¬ TextOf t W ds) ∧ callF D (n + 4) 8 [.str t] ob = .exc 1 ob)) := by
  rw [c8]; simp only [def8]
  walk_at "ev"
  rw [opSplit nl_len (by omega)]; walk_at "ev"
  rw [comp_map (fun v => match v with | .str l => .tup (rowI l) | _ => .non) (by
    intro v hv
    obtain ⟨l, hl', rfl⟩ := List.mem_map.mp hv
    have hlo := split_ok ht hl'
    have hll := split_lens (x := t) nl_len hl'
    refine ⟨⟨[_, _, _, .fr (.str l), _], _⟩, ?_, rfl⟩
    walk_at "ev"
    rw [opSplit bl_len (by omega)]; walk_at "ev"
    rw [comp_map (fun v => match v with | .str w => itemIn w | _ => .non) (by
      intro v hv
      obtain ⟨w, hw, rfl⟩ := List.mem_map.mp hv
      refine ⟨⟨[_, _, .fr (.str w), _, _], _⟩, ?_, rfl⟩
      walk_at "ev"
      rw [sItem (split_ok hlo hw)]; walk_at "ev") _ rfl]
    walk_at "ev"
    rw [List.map_map]
    rfl) _ rfl]
  walk_at "ev"
  have er : ((Txt.split t (Str.ofString "\n")).map PV.str).map (fun v => match v with | .str l => PV.tup (rowI l) | _ => .non) = (rowsI t).map .tup := by
    unfold rowsI
    rw [List.map_map, List.map_map]; rfl
  rw [er]
  have hne := rowsI_ne t
  have e0 : L2.atI ((rowsI t).map PV.tup) 0 = some (.tup ((rowsI t).headD [])) := by
    cases hr : rowsI t with
    | nil => exact absurd hr hne
    | cons r rs => exact atI0
  have hne0 : (rowsI t).headD [] ≠ [] := by
    unfold rowsI
    cases hs : Txt.split t nlS with
    | nil => exact absurd hs (split_ne _ _)
    | cons l ls => exact rowI_ne l
  rw [e0]; walk_at "ev"
  rw [atI_m1 hne0]; walk_at "ev"
  rw [cut_1]
  have ef : PV.tup [((rowsI t).headD []).getLastD .non, .tup ((rowsI t).map PV.tup).tail] = readF t := by
    unfold readF; rw [List.map_tail]
  rw [ef]
  have hp := readF_pl (L := t.length + 2) ht (Nat.le_refl _)
  rw [sScript (n := n) hp (by decide)]; walk_at "ev"
  by_cases hT : ∃ W ds, TextOf t W ds
  · left
    obtain ⟨W, ds, h⟩ := hT
    obtain ⟨a1, a2, a3⟩ := textA h
    refine ⟨W, ds, h, ?_⟩
    rw [a1, goodScript_enc h.1]; walk_at "ev"
    rw [sAsText h.1]; walk_at "ev"
    rw [h.2, pyEq_ss ht ht, beq_self_eq_true]; walk_at "ev"
  · right
    refine ⟨fun W ds h => hT ⟨W, ds, h⟩, ?_⟩
    cases hg : goodScript (readF t)
    · walk_at "ev"
    · obtain ⟨W, ds, e, hs⟩ := goodScript_dec hp hg
      walk_at "ev"
      rw [e, sAsText hs]; walk_at "ev"
      have hso : PyData.strOk (scT W ds) = true := by
        have : PyData.strOk nlS = true := by decide +kernel
        refine join_ok this fun p hp => strOk_iff.mpr fun c hc => ?_
        rcases List.mem_cons.mp hp with rfl | hp
        · have a := numT_len (i := W) (by have := hs.w3; omega) (by have := hs.w3; omega)
          exact strOk_iff.mp (app_ok wheels_facts.2.1 a.2.1) c hc
        · obtain ⟨d, hd, rfl⟩ := List.mem_map.mp hp
          have b : PyData.strOk blS = true := by decide +kernel
          refine strOk_iff.mp (join_ok b fun q hq => ?_) c hc
          rw [← its_words] at hq
          obtain ⟨v, hv, rfl⟩ := List.mem_map.mp hq
          exact (its_facts ⟨hs.ok d hd, hs.w3⟩ v hv).2.1
      have hne : (scT W ds == t) = false := by
        apply beq_eq_false_iff_ne.mpr
        exact fun z => hT ⟨W, ds, hs, z⟩
      rw [pyEq_ss hso ht, hne]; walk_at "ev"
theorem sRead {n : Nat} {ob : List Ob} {t : Str} (ht : PyData.strOk t = true) (hl : t.length ≤ 1000000) (hT : ∃ W ds, TextOf t W ds) : ∃ W ds, TextOf t W ds ∧ callF D (n + 4) 8 [.str t] ob = .ok (encS W ds) false .non ob := by
  rcases sReadRaw (n := n) (ob := ob) ht hl with h | ⟨h, _⟩
  · exact h
  · obtain ⟨W, ds, h'⟩ := hT; exact absurd h' (h W ds)
theorem sReadBad {n : Nat} {ob : List Ob} {t : Str} (ht : PyData.strOk t = true) (hl : t.length ≤ 1000000) (hT : ∀ W ds, ¬ TextOf t W ds) : callF D (n + 4) 8 [.str t] ob = .exc 1 ob := by
  rcases sReadRaw (n := n) (ob := ob) ht hl with ⟨W, ds, h, _⟩ | ⟨_, h⟩
  · exact absurd h (hT W ds)
  · exact h
theorem sReadNo {n : Nat} {ob : List Ob} {v : PV} (h : isTy .str v = some false) : callF D (n + 1) 8 [v] ob = .exc 1 ob := by
  rw [c8]; simp only [def8]
  walk_at "ev"
  rw [h]; walk_at "ev"
def lawCb (t : Str) : Bool := ((headW t).headD Str.empty == "wheels") && ((((headW t).length : Nat) : Int) == 2)
theorem atI_hd {xs : List Str} (h : xs ≠ []) : L2.atI (xs.map PV.str) 0 = some (.str (xs.headD Str.empty)) := by
  cases xs with
  | nil => exact absurd rfl h
  | cons x r => exact atI0
theorem sLawReadRaw {n : Nat} {ob : List Ob} {t : Str} (ht : PyData.strOk t = true) (hl : t.length ≤ 1000000) :
    callF D (n + 4) 19 [.str t] ob = .ok (if (lawCb t && goodScript (lawV t)) = true then lawV t else .non) false .non ob := by
  rw [c19]; simp only [def19]
  walk_at "ev"
  rw [opSplit nl_len (by omega)]; walk_at "ev"
  rw [comp_map (fun v => match v with | .str l => .lst ((Txt.split l blS).map .str) | _ => .non) (by
    intro v hv
    obtain ⟨l, hl', rfl⟩ := List.mem_map.mp hv
    have hll := split_lens (x := t) nl_len hl'
    refine ⟨⟨[_, _, .fr (.str l), _, _, _], _⟩, ?_, rfl⟩
    walk_at "ev"
    rw [opSplit bl_len (by omega)]; walk_at "ev") _ rfl]
  walk_at "ev"
  have er : ((Txt.split t nlS).map PV.str).map (fun v => match v with | .str l => PV.lst ((Txt.split l blS).map .str) | _ => .non) = (Txt.split t nlS).map fun l => PV.lst ((Txt.split l blS).map .str) := by
    rw [List.map_map]; rfl
  rw [er]
  have hwn : headW t ≠ [] := split_ne _ _
  have e0 : L2.atI ((Txt.split t nlS).map fun l => PV.lst ((Txt.split l blS).map .str)) 0 = some (.lst ((headW t).map .str)) := by
    unfold headW
    cases hs : Txt.split t nlS with
    | nil => exact absurd hs (split_ne _ _)
    | cons l ls => exact atI0
  have hho : ∀ w ∈ headW t, PyData.strOk w = true ∧ w.length ≤ 1000000 := by
    intro w hw
    unfold headW at hw
    have ho : PyData.strOk ((Txt.split t nlS).headD Str.empty) = true ∧ ((Txt.split t nlS).headD Str.empty).length ≤ 1000000 := by
      cases hs : Txt.split t nlS with
      | nil => exact absurd hs (split_ne _ _)
      | cons l ls =>
        have hm : l ∈ Txt.split t nlS := by rw [hs]; simp
        exact ⟨split_ok ht hm, by have := split_lens (x := t) nl_len hm; simp only [List.headD_cons]; omega⟩
    exact ⟨split_ok ho.1 hw, by have := split_lens (x := ((Txt.split t nlS).headD Str.empty)) bl_len hw; omega⟩
  have h0o : PyData.strOk ((headW t).headD Str.empty) = true := by
    cases hh : headW t with
    | nil => exact absurd hh hwn
    | cons w r => exact (hho w (by rw [hh]; simp)).1
  rw [e0]; walk_at "ev"
  rw [atI_hd hwn]; walk_at "ev"
  rw [pyEq_ss h0o wheels_facts.2.2.2.2.2.1]; walk_at "ev"
  unfold lawCb
  cases hc1 : ((headW t).headD Str.empty == ("wheels" : Str))
  · walk_at "ev"
    simp
  · walk_at "ev"
    rw [e0]; walk_at "ev"
    rw [List.length_map]
    cases hc2 : ((((headW t).length : Nat) : Int) == 2)
    · walk_at "ev"
      simp
    · walk_at "ev"
      rw [comp_map (fun v => match v with | .lst (.str h :: r) => .tup (.str h :: r.map (fun v => match v with | .str w => lawInt w | _ => .non)) | _ => .non) (by
        intro v hv
        obtain ⟨l, hl', rfl⟩ := List.mem_map.mp (mem_cut hv)
        have hlo := split_ok ht hl'
        have hll := split_lens (x := t) nl_len hl'
        have hcn := split_cnt (x := l) bl_len
        refine ⟨⟨[_, _, .fr (.lst ((Txt.split l blS).map .str)), _, _, _], _⟩, ?_, rfl⟩
        walk_at "ev"
        rw [atI_hd (split_ne _ _)]; walk_at "ev"
        rw [comp_map (fun v => match v with | .str w => lawInt w | _ => .non) (by
          intro v hv
          obtain ⟨w, hw, rfl⟩ := List.mem_map.mp (mem_cut hv)
          have hwl := split_lens (x := l) bl_len hw
          refine ⟨⟨[_, _, _, _, .fr (.str w), _], _⟩, ?_, rfl⟩
          walk_at "ev"
          rw [sLawInt (split_ok hlo hw) (by omega)]; walk_at "ev") _ rfl]
        walk_at "ev"
        rw [opAddT (by simp [cut_1]; omega)]; walk_at "ev"
        cases hs : Txt.split l blS with
        | nil => exact absurd hs (split_ne _ _)
        | cons a r =>
          rw [cut_1]; rfl) _ rfl]
      walk_at "ev"
      rw [e0]; walk_at "ev"
      obtain ⟨a, w1, hh⟩ : ∃ a w1, headW t = [a, w1] := by
        match hh : headW t, hc2 with
        | [a, w1], _ => exact ⟨a, w1, rfl⟩
        | [], h => simp at h
        | [_], h => simp at h
        | _ :: _ :: _ :: _, h => simp at h; omega
      have e1 : L2.atI ((headW t).map PV.str) 1 = some (.str w1) := by rw [hh]; exact atI1
      rw [e1]; walk_at "ev"
      have hw1 := hho w1 (by rw [hh]; simp)
      rw [sLawInt hw1.1 hw1.2]; walk_at "ev"
      have el : (PV.tup [lawInt w1, PV.tup ((cutP ((Txt.split t nlS).map fun l => PV.lst ((Txt.split l blS).map .str)) (some 1) none).map (fun v => match v with | .lst (.str h :: r) => PV.tup (.str h :: r.map (fun v => match v with | .str w => lawInt w | _ => .non)) | _ => .non))]) = lawV t := by
        unfold lawV
        rw [hh, cut_1, ← List.map_tail, List.map_map]
        congr 4
        apply List.map_congr_left
        intro l _
        unfold lawRow
        simp only [Function.comp]
        cases hs : Txt.split l blS with
        | nil => exact absurd hs (split_ne _ _)
        | cons a r =>
          simp only [List.map_cons, List.headD_cons, List.tail_cons, List.map_map]
          rfl
      rw [el, sScript (n := n) (lawV_pl (L := t.length + 2) ht (Nat.le_refl _)) (by decide)]; walk_at "ev"
      cases goodScript (lawV t) <;> walk_at "ev" <;> rfl
theorem lawCb_iff {t : Str} : lawCb t = true ↔ lawC t := by
  unfold lawCb lawC
  simp only [Bool.and_eq_true, beq_iff_eq]
  constructor
  · rintro ⟨h1, h2⟩; exact ⟨h1, by omega⟩
  · rintro ⟨h1, h2⟩; exact ⟨h1, by omega⟩
theorem sLawRead {n : Nat} {ob : List Ob} {t : Str} (ht : PyData.strOk t = true) (hl : t.length ≤ 1000000) :
    (∃ W ds, TextOf t W ds ∧ callF D (n + 4) 19 [.str t] ob = .ok (encS W ds) false .non ob) ∨ ((∀ W ds, ¬ TextOf t W ds) ∧ callF D (n + 4) 19 [.str t] ob = .ok .non false .non ob) := by
  rw [sLawReadRaw ht hl]
  by_cases hT : ∃ W ds, TextOf t W ds
  · left
    obtain ⟨W, ds, h⟩ := hT
    obtain ⟨a1, a2, a3⟩ := textA h
    refine ⟨W, ds, h, ?_⟩
    rw [a3, goodScript_enc h.1, lawCb_iff.mpr a2]; rfl
  · right
    refine ⟨fun W ds h => hT ⟨W, ds, h⟩, ?_⟩
    rw [if_neg]
    intro h
    rw [Bool.and_eq_true] at h
    exact hT (textB ht (lawCb_iff.mp h.1) h.2)
theorem text_det {t : Str} {W W' : Nat} {ds ds' : List Dd} (h : TextOf t W ds) (h' : TextOf t W' ds') : encS W ds = encS W' ds' := by
  rw [← (textA h).1, (textA h').1]
end K14.P
end
section
set_option Elab.async false
set_option linter.all false
set_option autoImplicit true
set_option maxRecDepth 100000
set_option maxHeartbeats 4000000
namespace K14.P
open PySem Qv
local macro_rules | `(tactic| walk_at "ev") => `(tactic| simp only [↓e_var, ↓e_cst, ↓k_e_bin4_eq, ↓k_e_bin3_eq, ↓k_e_bin2_eq, ↓k_e_bin1_eq, ↓e_bin, ↓k_e_neg2_eq, ↓k_e_neg1_eq, ↓e_neg, ↓condE_eq, ↓k_e_nt1_eq, ↓e_nt, ↓k_e_an2_eq, ↓k_e_an1_eq, ↓e_an, ↓k_e_orr2_eq, ↓k_e_orr1_eq, ↓e_orr, ↓k_e_ite1_eq, ↓e_ite, ↓k_e_tup1_eq, ↓e_tup, ↓k_e_lst1_eq, ↓e_lst, ↓k_e_cmp4_eq, ↓k_e_cmp3_eq, ↓k_e_cmp2_eq, ↓k_e_cmp1_eq, ↓e_cmp, ↓k_chnR_eq3_eq, ↓k_chnR_eq2_eq, ↓k_chnR_eq1_eq, ↓chnR_eq, ↓k_e_chn6_eq, ↓k_e_chn5_eq, ↓k_e_chn4_eq, ↓k_e_chn3_eq, ↓k_e_chn2_eq, ↓k_e_chn1_eq, ↓e_chn, ↓callR_eq, ↓k_e_call1_eq, ↓e_call, ↓callbR_eq, ↓k_e_callb3_eq, ↓k_e_callb2_eq, ↓k_e_callb1_eq, ↓e_callb, ↓callkR_eq, ↓k_e_callk2_eq, ↓k_e_callk1_eq, ↓e_callk, ↓callvA_eq, ↓k_e_callv1_eq, ↓e_callv, ↓k_e_bi1_eq, ↓e_bi, ↓k_e_callx2_eq, ↓k_e_callx1_eq, ↓e_callx, ↓k_e_tx5_eq, ↓k_e_tx4_eq, ↓k_e_tx3_eq, ↓k_e_tx2_eq, ↓k_e_tx1_eq, ↓e_tx, ↓k_e_ix4_eq, ↓k_e_ix3_eq, ↓k_e_ix2_eq, ↓k_e_ix1_eq, ↓e_ix, ↓k_e_sl4_eq, ↓k_e_sl3_eq, ↓k_e_sl2_eq, ↓k_e_sl1_eq, ↓e_sl, ↓k_e_fmt2_eq, ↓k_e_fmt1_eq, ↓e_fmt, ↓k_e_revt2_eq, ↓k_e_revt1_eq, ↓e_revt, ↓k_e_js1_eq, ↓e_js, ↓dj_nil', ↓k_dj_cons'3_eq, ↓k_dj_cons'2_eq, ↓k_dj_cons'1_eq, ↓dj_cons', ↓k_e_rev2_eq, ↓k_e_rev1_eq, ↓e_rev, ↓eltM_eq, ↓k_e_comp2_eq, ↓k_e_comp1_eq, ↓e_comp, ↓e_pop0, ↓a_nil', ↓k_a_cons'3_eq, ↓k_a_cons'2_eq, ↓k_a_cons'1_eq, ↓a_cons', ↓d_nil', ↓k_d_cons'3_eq, ↓k_d_cons'2_eq, ↓k_d_cons'1_eq, ↓d_cons', ↓v_nil', ↓k_v_cons'3_eq, ↓k_v_cons'2_eq, ↓k_v_cons'1_eq, ↓v_cons', ↓k_i_zip'4_eq, ↓k_i_zip'3_eq, ↓k_i_zip'2_eq, ↓k_i_zip'1_eq, ↓i_zip', ↓k_i_zipL'4_eq, ↓k_i_zipL'3_eq, ↓k_i_zipL'2_eq, ↓k_i_zipL'1_eq, ↓i_zipL', ↓k_i_rng1'1_eq, ↓i_rng1', ↓k_i_rng2'3_eq, ↓k_i_rng2'2_eq, ↓k_i_rng2'1_eq, ↓i_rng2', ↓k_i_enm'2_eq, ↓k_i_enm'1_eq, ↓i_enm', ↓k_i_seqI'2_eq, ↓k_i_seqI'1_eq, ↓i_seqI', ↓partO_var, ↓condB_var, ↓partO_cst, ↓condB_cst, ↓partO_bin, ↓condB_bin, ↓partO_neg, ↓condB_neg, ↓partO_ix, ↓condB_ix, ↓partO_bi, ↓condB_bi, ↓partO_call, ↓condB_call, ↓partO_callb, ↓condB_callb, ↓partO_cmp, ↓condB_cmp, ↓partO_nt, ↓condB_nt, ↓partO_an, ↓condB_an, ↓partO_orr, ↓condB_orr, ↓partO_callk, ↓condB_callk, ↓partO_ite, ↓condB_ite, ↓partO_chn, ↓condB_chn, ↓partO_pop0, ↓condB_pop0, ↓st_skip', ↓k_st_seq'1_eq, ↓st_seq', ↓k_st_asg'3_eq, ↓k_st_asg'2_eq, ↓k_st_asg'1_eq, ↓st_asg', ↓k_st_asgT'3_eq, ↓k_st_asgT'2_eq, ↓k_st_asgT'1_eq, ↓st_asgT', ↓k_st_asgP'2_eq, ↓k_st_asgP'1_eq, ↓st_asgP', ↓k_st_ixs'7_eq, ↓k_st_ixs'6_eq, ↓k_st_ixs'5_eq, ↓k_st_ixs'4_eq, ↓k_st_ixs'3_eq, ↓k_st_ixs'2_eq, ↓k_st_ixs'1_eq, ↓st_ixs', ↓k_st_app'5_eq, ↓k_st_app'4_eq, ↓k_st_app'3_eq, ↓k_st_app'2_eq, ↓k_st_app'1_eq, ↓st_app', ↓k_st_exp'1_eq, ↓st_exp', ↓k_st_ret'1_eq, ↓st_ret', ↓k_st_ifs'1_eq, ↓st_ifs', ↓k_st_fr'1_eq, ↓st_fr', ↓st_rais', ↓k_ixM_eq5_eq, ↓k_ixM_eq4_eq, ↓k_ixM_eq3_eq, ↓k_ixM_eq2_eq, ↓k_ixM_eq1_eq, ↓ixM_eq, ↓st_ix2', ntB_eq, blK_eq, callvR_fn, okL_eq, nxK_eq, putK_eq, frK_eq, setVsK_eq, setTgsK_eq, consK_eq, frzsK_eq, someK_eq, partK_eq, lk0, il0, lk1, il1, lk2, il2, lk3, il3, lk4, il4, lk5, il5, lk6, il6, lk7, il7, lk8, il8, lk9, il9, lk10, il10, lk11, il11, lk12, il12, lk13, il13, lk14, il14, lk15, il15, lk16, il16, R.bind_ok, R.bind_exc, R.bind_bad, slE_fr, slE_own, slD_fr, slD_own, slF_fr, slF_own, slW_own, slR_fr, deref_fr, deref_own, deref_sl, frz_fr, frz_own, frz_sl, ownAt_eq, frAt_eq, ofO_some, ofO_none, rvB_fr, rvI_fr, andG_t, andG_f, orG_t, orG_f, ifR_t, ifR_f, okM_eq, badM_eq, pop0S_cons, seqOf_lst, seqOf_tup, zipM_l, zipM_t, zipLM_l, enmM_l, asExn_x, asStr_s, frzs_nil, frzs_cons, partO_nil, condB_nil, settle_fr, settle_own, stB_t, stB_f, settle_sl, noSl_fr, noSl_own, noSl_sl, setV_fr, setV_own, setV_sl, setVs_nil, setVs_cons, setTg_nm, setTg_tp, setTgs_nil, setTgs_cons, putM_eq, raiseM_eq, thenS_nx, thenS_ret, toM_fr, toM_own, toM_exc, toMb_fr, toMb_own, keep_exc, obs_mk, env_mk, finB_f, finB_t, endB_nx, endB_fr, endB_own, endS_own, endS_fr, endB_slf, endB_slt, endB_exc, ix2G_2, ix2K_eq, wipe_nil, wipe_cons, Nat.beq, sA0, sA1, sA2, sA3, sA4, sA5, sA6, sA7, sA8, sA9, sA10, sA11, sA12, sA13, sA14, sA15, sA16, sA17, sA18, sA19, sP0, sP1, sP2, sP3, sP4, sP5, sP6, sP7, sP8, sP9, sP10, sP11, sP12, sP13, sP14, sP15, sP16, sP17, sP18, sP19, o0_, o1_, o2_, o3_, o4_, o5_, o6_, o7_, o8_, o9_, o10_, o11_, o12_, o13_, o14_, o15_, o16_, o17_, o18_, o19_, o20_, o21_, o22_, o23_, o24_, o25_, o26_, o27_, o28_, o29_, o30_, o31_, o32_, o33_, o34_, o35_, o36_, o37_, o38_, o39_, o40_, o41_, o42_, o43_, o44_, o45_, o46_, o47_, o48_, o49_, o50_, o51_, o52_, o53_, o54_, o55_, o56_, o57_, o58_, o59_, o60_, o61_, o62_, o63_, o64_, o65_, o66_, turnR_eq, turnK_eq, cT4_eq, cT3_eq, cT0_eq, cT2_eq, cT1_eq, cTurn_eq, forGo_nil, atI0, atI1, atI2, atI3, pyEq_ii, pyEq_bb, Int.reduceBEq, Int.reduceLT, Int.reduceLE, Int.reduceAdd, Int.reduceSub, Int.reduceNeg, Int.reduceMul, decide_true, decide_false, Bool.not_true, Bool.not_false, Bool.false_and, Bool.true_and, Bool.and_true, Bool.and_false, Bool.or_false, Bool.false_or, Bool.true_or, Bool.or_true])
local macro_rules | `(tactic| walk_at "ev?") => `(tactic| (try simp only [↓e_var, ↓e_cst, ↓k_e_bin4_eq, ↓k_e_bin3_eq, ↓k_e_bin2_eq, ↓k_e_bin1_eq, ↓e_bin, ↓k_e_neg2_eq, ↓k_e_neg1_eq, ↓e_neg, ↓condE_eq, ↓k_e_nt1_eq, ↓e_nt, ↓k_e_an2_eq, ↓k_e_an1_eq, ↓e_an, ↓k_e_orr2_eq, ↓k_e_orr1_eq, ↓e_orr, ↓k_e_ite1_eq, ↓e_ite, ↓k_e_tup1_eq, ↓e_tup, ↓k_e_lst1_eq, ↓e_lst, ↓k_e_cmp4_eq, ↓k_e_cmp3_eq, ↓k_e_cmp2_eq, ↓k_e_cmp1_eq, ↓e_cmp, ↓k_chnR_eq3_eq, ↓k_chnR_eq2_eq, ↓k_chnR_eq1_eq, ↓chnR_eq, ↓k_e_chn6_eq, ↓k_e_chn5_eq, ↓k_e_chn4_eq, ↓k_e_chn3_eq, ↓k_e_chn2_eq, ↓k_e_chn1_eq, ↓e_chn, ↓callR_eq, ↓k_e_call1_eq, ↓e_call, ↓callbR_eq, ↓k_e_callb3_eq, ↓k_e_callb2_eq, ↓k_e_callb1_eq, ↓e_callb, ↓callkR_eq, ↓k_e_callk2_eq, ↓k_e_callk1_eq, ↓e_callk, ↓callvA_eq, ↓k_e_callv1_eq, ↓e_callv, ↓k_e_bi1_eq, ↓e_bi, ↓k_e_callx2_eq, ↓k_e_callx1_eq, ↓e_callx, ↓k_e_tx5_eq, ↓k_e_tx4_eq, ↓k_e_tx3_eq, ↓k_e_tx2_eq, ↓k_e_tx1_eq, ↓e_tx, ↓k_e_ix4_eq, ↓k_e_ix3_eq, ↓k_e_ix2_eq, ↓k_e_ix1_eq, ↓e_ix, ↓k_e_sl4_eq, ↓k_e_sl3_eq, ↓k_e_sl2_eq, ↓k_e_sl1_eq, ↓e_sl, ↓k_e_fmt2_eq, ↓k_e_fmt1_eq, ↓e_fmt, ↓k_e_revt2_eq, ↓k_e_revt1_eq, ↓e_revt, ↓k_e_js1_eq, ↓e_js, ↓dj_nil', ↓k_dj_cons'3_eq, ↓k_dj_cons'2_eq, ↓k_dj_cons'1_eq, ↓dj_cons', ↓k_e_rev2_eq, ↓k_e_rev1_eq, ↓e_rev, ↓eltM_eq, ↓k_e_comp2_eq, ↓k_e_comp1_eq, ↓e_comp, ↓e_pop0, ↓a_nil', ↓k_a_cons'3_eq, ↓k_a_cons'2_eq, ↓k_a_cons'1_eq, ↓a_cons', ↓d_nil', ↓k_d_cons'3_eq, ↓k_d_cons'2_eq, ↓k_d_cons'1_eq, ↓d_cons', ↓v_nil', ↓k_v_cons'3_eq, ↓k_v_cons'2_eq, ↓k_v_cons'1_eq, ↓v_cons', ↓k_i_zip'4_eq, ↓k_i_zip'3_eq, ↓k_i_zip'2_eq, ↓k_i_zip'1_eq, ↓i_zip', ↓k_i_zipL'4_eq, ↓k_i_zipL'3_eq, ↓k_i_zipL'2_eq, ↓k_i_zipL'1_eq, ↓i_zipL', ↓k_i_rng1'1_eq, ↓i_rng1', ↓k_i_rng2'3_eq, ↓k_i_rng2'2_eq, ↓k_i_rng2'1_eq, ↓i_rng2', ↓k_i_enm'2_eq, ↓k_i_enm'1_eq, ↓i_enm', ↓k_i_seqI'2_eq, ↓k_i_seqI'1_eq, ↓i_seqI', ↓partO_var, ↓condB_var, ↓partO_cst, ↓condB_cst, ↓partO_bin, ↓condB_bin, ↓partO_neg, ↓condB_neg, ↓partO_ix, ↓condB_ix, ↓partO_bi, ↓condB_bi, ↓partO_call, ↓condB_call, ↓partO_callb, ↓condB_callb, ↓partO_cmp, ↓condB_cmp, ↓partO_nt, ↓condB_nt, ↓partO_an, ↓condB_an, ↓partO_orr, ↓condB_orr, ↓partO_callk, ↓condB_callk, ↓partO_ite, ↓condB_ite, ↓partO_chn, ↓condB_chn, ↓partO_pop0, ↓condB_pop0, ↓st_skip', ↓k_st_seq'1_eq, ↓st_seq', ↓k_st_asg'3_eq, ↓k_st_asg'2_eq, ↓k_st_asg'1_eq, ↓st_asg', ↓k_st_asgT'3_eq, ↓k_st_asgT'2_eq, ↓k_st_asgT'1_eq, ↓st_asgT', ↓k_st_asgP'2_eq, ↓k_st_asgP'1_eq, ↓st_asgP', ↓k_st_ixs'7_eq, ↓k_st_ixs'6_eq, ↓k_st_ixs'5_eq, ↓k_st_ixs'4_eq, ↓k_st_ixs'3_eq, ↓k_st_ixs'2_eq, ↓k_st_ixs'1_eq, ↓st_ixs', ↓k_st_app'5_eq, ↓k_st_app'4_eq, ↓k_st_app'3_eq, ↓k_st_app'2_eq, ↓k_st_app'1_eq, ↓st_app', ↓k_st_exp'1_eq, ↓st_exp', ↓k_st_ret'1_eq, ↓st_ret', ↓k_st_ifs'1_eq, ↓st_ifs', ↓k_st_fr'1_eq, ↓st_fr', ↓st_rais', ↓k_ixM_eq5_eq, ↓k_ixM_eq4_eq, ↓k_ixM_eq3_eq, ↓k_ixM_eq2_eq, ↓k_ixM_eq1_eq, ↓ixM_eq, ↓st_ix2', ntB_eq, blK_eq, callvR_fn, okL_eq, nxK_eq, putK_eq, frK_eq, setVsK_eq, setTgsK_eq, consK_eq, frzsK_eq, someK_eq, partK_eq, lk0, il0, lk1, il1, lk2, il2, lk3, il3, lk4, il4, lk5, il5, lk6, il6, lk7, il7, lk8, il8, lk9, il9, lk10, il10, lk11, il11, lk12, il12, lk13, il13, lk14, il14, lk15, il15, lk16, il16, R.bind_ok, R.bind_exc, R.bind_bad, slE_fr, slE_own, slD_fr, slD_own, slF_fr, slF_own, slW_own, slR_fr, deref_fr, deref_own, deref_sl, frz_fr, frz_own, frz_sl, ownAt_eq, frAt_eq, ofO_some, ofO_none, rvB_fr, rvI_fr, andG_t, andG_f, orG_t, orG_f, ifR_t, ifR_f, okM_eq, badM_eq, pop0S_cons, seqOf_lst, seqOf_tup, zipM_l, zipM_t, zipLM_l, enmM_l, asExn_x, asStr_s, frzs_nil, frzs_cons, partO_nil, condB_nil, settle_fr, settle_own, stB_t, stB_f, settle_sl, noSl_fr, noSl_own, noSl_sl, setV_fr, setV_own, setV_sl, setVs_nil, setVs_cons, setTg_nm, setTg_tp, setTgs_nil, setTgs_cons, putM_eq, raiseM_eq, thenS_nx, thenS_ret, toM_fr, toM_own, toM_exc, toMb_fr, toMb_own, keep_exc, obs_mk, env_mk, finB_f, finB_t, endB_nx, endB_fr, endB_own, endS_own, endS_fr, endB_slf, endB_slt, endB_exc, ix2G_2, ix2K_eq, wipe_nil, wipe_cons, Nat.beq, sA0, sA1, sA2, sA3, sA4, sA5, sA6, sA7, sA8, sA9, sA10, sA11, sA12, sA13, sA14, sA15, sA16, sA17, sA18, sA19, sP0, sP1, sP2, sP3, sP4, sP5, sP6, sP7, sP8, sP9, sP10, sP11, sP12, sP13, sP14, sP15, sP16, sP17, sP18, sP19, o0_, o1_, o2_, o3_, o4_, o5_, o6_, o7_, o8_, o9_, o10_, o11_, o12_, o13_, o14_, o15_, o16_, o17_, o18_, o19_, o20_, o21_, o22_, o23_, o24_, o25_, o26_, o27_, o28_, o29_, o30_, o31_, o32_, o33_, o34_, o35_, o36_, o37_, o38_, o39_, o40_, o41_, o42_, o43_, o44_, o45_, o46_, o47_, o48_, o49_, o50_, o51_, o52_, o53_, o54_, o55_, o56_, o57_, o58_, o59_, o60_, o61_, o62_, o63_, o64_, o65_, o66_, turnR_eq, turnK_eq, cT4_eq, cT3_eq, cT0_eq, cT2_eq, cT1_eq, cTurn_eq, forGo_nil, atI0, atI1, atI2, atI3, pyEq_ii, pyEq_bb, Int.reduceBEq, Int.reduceLT, Int.reduceLE, Int.reduceAdd, Int.reduceSub, Int.reduceNeg, Int.reduceMul, decide_true, decide_false, Bool.not_true, Bool.not_false, Bool.false_and, Bool.true_and, Bool.and_true, Bool.and_false, Bool.or_false, Bool.false_or, Bool.true_or, Bool.or_true]))

abbrev LS : List Nat := [22, 23, 24, 25, 26, 27]
theorem sTold {n d : Nat} {ob : List Ob} {ws : List PV} {v : PV} (h : callF D (n + 1) d ws ob = .ok v false .non ob) (hd : LS.contains d = true) : callF D (n + 2) 16 [.clo d ws] ob = .ok (.tup [v, .str ""]) false .non ob := by
  rw [c16]; simp only [def16]
  walk_at "ev"
  rw [st_tryx', tryM_ok (f := .ret (.fr (.tup [v, .str ""]))) (s' := ⟨[.fr (.clo d ws), .no], ob⟩) ?_]
  · walk_at "ev"
  · have e : okV [] [22, 23, 24, 25, 26, 27] (.clo d ws) = true := hd
    walk_at "ev"
    rw [e]; walk_at "ev"
    rw [callvR_clo rfl]
    simp only [List.nil_append]
    rw [h]; walk_at "ev"
theorem sToldX {n c d : Nat} {ob : List Ob} {ws : List PV} (h : callF D (n + 1) d ws ob = .exc c ob) (hd : LS.contains d = true) (hc : c < 2) : callF D (n + 2) 16 [.clo d ws] ob = .ok (.tup [.non, .str (nmC c)]) false .non ob := by
  rw [c16]; simp only [def16]
  walk_at "ev"
  rw [st_tryx', tryM_exc (c := c) (s' := ⟨[.fr (.clo d ws), .no], ob⟩) (v := .tup [.non, .str (nmC c)]) (s2 := ⟨[.fr (.clo d ws), .fr (.exn c)], ob⟩) ?_ hc ?_ rfl]
  · walk_at "ev"
  · have e : okV [] [22, 23, 24, 25, 26, 27] (.clo d ws) = true := hd
    walk_at "ev"
    rw [e]; walk_at "ev"
    rw [callvR_clo rfl]
    simp only [List.nil_append]
    rw [h]; walk_at "ev"
  · walk_at "ev"
    rw [sNamed hc, keep_ok rfl]; walk_at "ev"
theorem noText {t : Str} (h : (lawCb t && goodScript (lawV t)) = false) : ∀ W ds, ¬ TextOf t W ds := by
  intro W ds hT
  obtain ⟨_, a2, a3⟩ := textA hT
  rw [a3, goodScript_enc hT.1, lawCb_iff.mpr a2] at h
  cases h
theorem line_pos {W : Nat} {ds : List Dd} (h : Scr W ds 4 3) : ∀ l ∈ lines W ds, TL.tl l ≠ [] := by
  intro l hl e
  have z : l.length = 0 := by rw [len_tl, e]; rfl
  rcases List.mem_cons.mp hl with rfl | hl
  · rw [len_app, wheels_facts.1] at z; omega
  · obtain ⟨d, hd, rfl⟩ := List.mem_map.mp hl
    have sd : smallD W d := ⟨h.ok d hd, h.w3⟩
    have a := words_sum sd
    have b := join_len (y := blS) a.2.2
    have n := its_n d
    have c : d.words.length = d.its.length := by rw [← its_words, List.length_map]
    rw [bl_len] at b
    unfold Dd.txt at z
    omega
theorem nl_app {t : Str} : Txt.split (nlS ++ t) nlS = Str.empty :: Txt.split t nlS := by
  rw [nlS_eq]
  refine split_uniq 10 (by decide) (by simp) (fun p hp hc => ?_) ?_
  · rcases List.mem_cons.mp hp with rfl | hp
    · cases hc
    · exact split_free t 10 p hp hc
  · apply TL.ext_tl
    have e := congrArg TL.tl (join_split t ⟨#[10]⟩)
    rw [tl_join] at e ⊢
    rw [TL.tl_append, ← e]
    cases hs : Txt.split t ⟨#[10]⟩ with
    | nil => exact absurd hs (split_ne _ _)
    | cons a r => rfl
theorem joinL_snoc {S q : List Nat} : ∀ {ps : List (List Nat)}, ps ≠ [] → TL.joinL S (ps ++ [q]) = TL.joinL S ps ++ (S ++ q)
  | [], h => absurd rfl h
  | [p], _ => rfl
  | p :: r :: t, _ => by
    show p ++ (S ++ TL.joinL S (r :: t ++ [q])) = p ++ (S ++ TL.joinL S (r :: t)) ++ (S ++ q)
    rw [joinL_snoc (by simp)]; simp
theorem app_nl {t : Str} : Txt.split (t ++ nlS) nlS = Txt.split t nlS ++ [Str.empty] := by
  rw [nlS_eq]
  refine split_uniq 10 (by decide) (by simp) (fun p hp hc => ?_) ?_
  · rcases List.mem_append.mp hp with hp | hp
    · exact split_free t 10 p hp hc
    · simp at hp; subst hp; cases hc
  · apply TL.ext_tl
    have e := congrArg TL.tl (join_split t ⟨#[10]⟩)
    rw [tl_join] at e ⊢
    rw [List.map_append, List.map_cons, List.map_nil, joinL_snoc (by simp [split_ne]), TL.tl_append, ← e]
    simp
    rfl
theorem bl_app {t l0 : Str} {ls : List Str} (h : Txt.split t nlS = l0 :: ls) : Txt.split (blS ++ t) nlS = (blS ++ l0) :: ls := by
  have ej := join_split t nlS
  rw [h] at ej
  have hf := split_free t 10
  rw [← nlS_eq, h] at hf
  rw [nlS_eq] at ej ⊢
  refine split_uniq 10 (by decide) (by simp) (fun p hp hc => ?_) ?_
  · rcases List.mem_cons.mp hp with rfl | hp
    · rw [TL.tl_append] at hc
      rcases List.mem_append.mp hc with hc | hc
      · have : TL.tl blS = [32] := by decide +kernel
        rw [this] at hc; simp at hc
      · exact hf l0 (by simp) hc
    · exact hf p (by simp [hp]) hc
  · apply TL.ext_tl
    have e := congrArg TL.tl ej
    rw [tl_join] at e ⊢
    rw [TL.tl_append, ← e]
    cases ls with
    | nil => simp only [List.map_cons, List.map_nil, TL.tl_append]; rfl
    | cons a r => simp only [List.map_cons, TL.tl_append]; simp [TL.joinL]
theorem odd1 {t : Str} : ∀ W ds, ¬ TextOf (t ++ nlS) W ds := by
  intro W ds h
  have hs := split_text h
  rw [app_nl] at hs
  exact line_pos h.1 Str.empty (by rw [← hs]; simp) rfl
theorem odd2 {t : Str} : ∀ W ds, ¬ TextOf (nlS ++ t) W ds := by
  intro W ds h
  have hs := split_text h
  rw [nl_app] at hs
  exact line_pos h.1 Str.empty (by rw [← hs]; simp) rfl
theorem odd3 {t : Str} : ∀ W ds, ¬ TextOf (blS ++ t) W ds := by
  intro W ds h
  have hs := split_text h
  cases hsp : Txt.split t nlS with
  | nil => exact absurd hsp (split_ne _ _)
  | cons l0 ls =>
    rw [bl_app hsp] at hs
    simp only [lines, List.cons.injEq] at hs
    have e := congrArg TL.tl hs.1
    rw [TL.tl_append, TL.tl_append] at e
    have a : TL.tl blS = [32] := by decide +kernel
    have b : ∃ r, TL.tl ("wheels " : Str) = 119 :: r := ⟨[104, 101, 101, 108, 115, 32], by decide +kernel⟩
    obtain ⟨r, b⟩ := b
    rw [a, b] at e
    simp at e
theorem scT_facts {W : Nat} {ds : List Dd} (hs : Scr W ds 4 3) : PyData.strOk (scT W ds) = true ∧ (scT W ds).length ≤ 110 := by
  constructor
  · have : PyData.strOk nlS = true := by decide +kernel
    refine join_ok this fun p hp => strOk_iff.mpr fun c hc => ?_
    rcases List.mem_cons.mp hp with rfl | hp
    · have a := numT_len (i := W) (by have := hs.w3; omega) (by have := hs.w3; omega)
      exact strOk_iff.mp (app_ok wheels_facts.2.1 a.2.1) c hc
    · obtain ⟨d, hd, rfl⟩ := List.mem_map.mp hp
      have b : PyData.strOk blS = true := by decide +kernel
      refine strOk_iff.mp (join_ok b fun q hq => ?_) c hc
      rw [← its_words] at hq
      obtain ⟨v, hv, rfl⟩ := List.mem_map.mp hq
      exact (its_facts ⟨hs.ok d hd, hs.w3⟩ v hv).2.1
  · have a := lines_sum hs
    have b := join_len (y := nlS) (ps := lines W ds) (by simp [lines])
    rw [nl_len] at b
    unfold scT
    omega
theorem cut_map {f : Str → PV} {L : List Str} {lo hi : Option Int} : ∃ A : List Str, cutP (L.map f) lo hi = A.map f ∧ (∀ x ∈ A, x ∈ L) ∧ A.length ≤ L.length := by
  refine ⟨(L.drop (HT.sIx L.length 0 lo)).take (HT.sIx L.length L.length hi - HT.sIx L.length 0 lo), ?_, fun x hx => List.mem_of_mem_drop (List.mem_of_mem_take hx), by simp; omega⟩
  unfold cutP
  rw [List.length_map, List.map_take, List.map_drop]
theorem sum_le {ls : List Str} {B : Nat} (h : ∀ l ∈ ls, l.length ≤ B) : (ls.map Str.length).sum ≤ B * ls.length := by
  induction ls with
  | nil => simp
  | cons l ls ih =>
    have a := h l (by simp)
    have b := ih fun x hx => h x (by simp [hx])
    simp only [List.map_cons, List.sum_cons, List.length_cons, Nat.mul_add, Nat.mul_one]; omega
theorem joined {A : List Str} {t : Str} (ht : PyData.strOk t = true) (hl : t.length ≤ 300) (hA : ∀ x ∈ A, x ∈ Txt.split t nlS) (hn : A.length ≤ 700) :
    opTx .join nlS (.lst (A.map .str)) = some (.fr (.str (Txt.join nlS A))) ∧ PyData.strOk (Txt.join nlS A) = true ∧ (Txt.join nlS A).length ≤ 1000000 := by
  have hb : ∀ l ∈ A, l.length ≤ 300 := fun l h => by have := split_lens (x := t) nl_len (hA l h); omega
  have s := sum_le hb
  have s2 : 300 * A.length ≤ 300 * 700 := Nat.mul_le_mul_left _ hn
  have nlo : PyData.strOk nlS = true := by decide +kernel
  refine ⟨opJoin (strL_id A) (by rw [nl_len]; omega), join_ok nlo fun p hp => split_ok ht (hA p hp), ?_⟩
  by_cases h0 : A = []
  · subst h0; decide +kernel
  · have := join_len (y := nlS) h0
    rw [nl_len] at this
    omega
theorem marks : ∀ s ∈ ([" ", "x", "\n", "1", "0", "-", " 2", "\npush 0 1", "\nzero 0", "\nwheels 1"] : List Str), s.length ≤ 10 ∧ PyData.strOk s = true := by decide +kernel
theorem sBent {n : Nat} {ob : List Ob} {t : Str} (ht : PyData.strOk t = true) (hl : t.length ≤ 300) (bs : List Int) : ∃ t' bs', callF D (n + 3) 20 [bagP bs, .str t] ob = .ok (.str t') false (bagP bs') ob ∧ PyData.strOk t' = true ∧ t'.length ≤ 1000000 := by
  rw [c20]; simp only [def20]
  walk_at "ev"
  rw [opLenS (by omega)]; walk_at "ev"
  obtain ⟨at', bs1, e, a0, a1⟩ := sTake (n := n + 1) (ob := ob) bs (m := (t.length : Int) + 1) (by omega)
  rw [e]; walk_at "ev"
  obtain ⟨way, bs2, e, w0, w1⟩ := sTake (n := n + 1) (ob := ob) bs1 (m := 6) (by decide)
  rw [e]; walk_at "ev"
  rw [opSplit nl_len (by omega)]; walk_at "ev"
  have hcnt := split_cnt (x := t) nl_len
  have hpos : 0 < (Txt.split t nlS).length := List.length_pos_iff.mpr (split_ne _ _)
  obtain ⟨line, bs3, e, l0, l1⟩ := sTake (n := n + 1) (ob := ob) bs2 (m := (((Txt.split t nlS).map PV.str).length : Int)) (by simp; omega)
  rw [e]; walk_at "ev"
  have sl := fun lo hi => slice_len t lo hi
  have so := fun lo hi => slice_ok (lo := lo) (hi := hi) ht
  have hw : way = 0 ∨ way = 1 ∨ way = 2 ∨ way = 3 ∨ way = 4 ∨ way = 5 := by omega
  rcases hw with rfl | rfl | rfl | rfl | rfl | rfl
  · walk_at "ev"
    obtain ⟨x, bs4, e, hx⟩ := sChoice (n := n) (ob := ob) bs3 (xs := ([" ", "x", "\n", "1", "0", "-", " 2", "\npush 0 1", "\nzero 0", "\nwheels 1"] : List Str).map .str) (by simp)
    obtain ⟨mk, hm, rfl⟩ := List.mem_map.mp hx
    have mf := marks mk hm
    simp only [List.map_cons, List.map_nil] at e
    rw [e]; walk_at "ev"
    have s1 := sl none (some at')
    have s2 := sl (some at') none
    rw [opSlS (by omega)]; walk_at "ev"
    rw [opAddS (by omega)]; walk_at "ev"
    rw [opSlS (by omega)]; walk_at "ev"
    rw [opAddS (by rw [len_app]; omega)]; walk_at "ev"
    exact ⟨_, _, rfl, app_ok (app_ok (so _ _) mf.2) (so _ _), by rw [len_app, len_app]; omega⟩
  · walk_at "ev"
    have s1 := sl none (some at')
    have s2 := sl (some (at' + 1)) none
    rw [opSlS (by omega)]; walk_at "ev"
    rw [opSlS (by omega)]; walk_at "ev"
    rw [opAddS (by omega)]; walk_at "ev"
    exact ⟨_, _, rfl, app_ok (so _ _) (so _ _), by rw [len_app]; omega⟩
  · walk_at "ev"
    obtain ⟨A, ea, ha, la⟩ := cut_map (f := PV.str) (L := Txt.split t nlS) (lo := none) (hi := some line)
    obtain ⟨B, eb, hb, lb⟩ := cut_map (f := PV.str) (L := Txt.split t nlS) (lo := some (line + 1)) (hi := none)
    rw [ea, eb, opAddL (by simp; omega), ← List.map_append]; walk_at "ev"
    obtain ⟨j1, j2, j3⟩ := joined (A := A ++ B) ht hl (fun x hx => (List.mem_append.mp hx).elim (ha x) (hb x)) (by simp; omega)
    rw [j1]; walk_at "ev"
    exact ⟨_, _, rfl, j2, j3⟩
  · walk_at "ev"
    obtain ⟨A, ea, ha, la⟩ := cut_map (f := PV.str) (L := Txt.split t nlS) (lo := none) (hi := some (line + 1))
    obtain ⟨B, eb, hb, lb⟩ := cut_map (f := PV.str) (L := Txt.split t nlS) (lo := some line) (hi := none)
    rw [ea, eb, opAddL (by simp; omega), ← List.map_append]; walk_at "ev"
    obtain ⟨j1, j2, j3⟩ := joined (A := A ++ B) ht hl (fun x hx => (List.mem_append.mp hx).elim (ha x) (hb x)) (by simp; omega)
    rw [j1]; walk_at "ev"
    exact ⟨_, _, rfl, j2, j3⟩
  · walk_at "ev"
    obtain ⟨A, ea, ha, la⟩ := cut_map (f := PV.str) (L := Txt.split t nlS) (lo := some line) (hi := none)
    obtain ⟨B, eb, hb, lb⟩ := cut_map (f := PV.str) (L := Txt.split t nlS) (lo := none) (hi := some line)
    rw [ea, eb, opAddL (by simp; omega), ← List.map_append]; walk_at "ev"
    obtain ⟨j1, j2, j3⟩ := joined (A := A ++ B) ht hl (fun x hx => (List.mem_append.mp hx).elim (ha x) (hb x)) (by simp; omega)
    rw [j1]; walk_at "ev"
    exact ⟨_, _, rfl, j2, j3⟩
  · walk_at "ev"
    obtain ⟨A, ea, ha, la⟩ := cut_map (f := PV.str) (L := Txt.split t nlS) (lo := none) (hi := some 1)
    rw [ea]
    cases hsp : Txt.split t nlS with
    | nil => exact absurd hsp (split_ne _ _)
    | cons p ps =>
      have er : opRevT (.lst ((p :: ps).map PV.str)) = some (.own (.lst (ps.reverse.map .str))) := by rw [List.map_reverse]; rfl
      rw [er]; walk_at "ev"
      rw [hsp] at la hcnt ha
      simp only [List.length_cons] at la hcnt
      rw [opAddL (by simp; omega), ← List.map_append]; walk_at "ev"
      obtain ⟨j1, j2, j3⟩ := joined (A := A ++ ps.reverse) ht hl (fun x hx => (List.mem_append.mp hx).elim (fun h => by rw [hsp]; exact ha x h) (fun h => by rw [hsp]; exact List.mem_cons_of_mem _ (List.mem_reverse.mp h))) (by simp; omega)
      rw [j1]; walk_at "ev"
      exact ⟨_, _, rfl, j2, j3⟩
end K14.P
end
section
set_option Elab.async false
set_option linter.all false
set_option autoImplicit true
set_option maxRecDepth 100000
set_option maxHeartbeats 4000000
namespace K14.P
open PySem Qv
local macro_rules | `(tactic| walk_at "ev") => `(tactic| simp only [↓e_var, ↓e_cst, ↓k_e_bin4_eq, ↓k_e_bin3_eq, ↓k_e_bin2_eq, ↓k_e_bin1_eq, ↓e_bin, ↓k_e_neg2_eq, ↓k_e_neg1_eq, ↓e_neg, ↓condE_eq, ↓k_e_nt1_eq, ↓e_nt, ↓k_e_an2_eq, ↓k_e_an1_eq, ↓e_an, ↓k_e_orr2_eq, ↓k_e_orr1_eq, ↓e_orr, ↓k_e_ite1_eq, ↓e_ite, ↓k_e_tup1_eq, ↓e_tup, ↓k_e_lst1_eq, ↓e_lst, ↓k_e_cmp4_eq, ↓k_e_cmp3_eq, ↓k_e_cmp2_eq, ↓k_e_cmp1_eq, ↓e_cmp, ↓k_chnR_eq3_eq, ↓k_chnR_eq2_eq, ↓k_chnR_eq1_eq, ↓chnR_eq, ↓k_e_chn6_eq, ↓k_e_chn5_eq, ↓k_e_chn4_eq, ↓k_e_chn3_eq, ↓k_e_chn2_eq, ↓k_e_chn1_eq, ↓e_chn, ↓callR_eq, ↓k_e_call1_eq, ↓e_call, ↓callbR_eq, ↓k_e_callb3_eq, ↓k_e_callb2_eq, ↓k_e_callb1_eq, ↓e_callb, ↓callkR_eq, ↓k_e_callk2_eq, ↓k_e_callk1_eq, ↓e_callk, ↓callvA_eq, ↓k_e_callv1_eq, ↓e_callv, ↓k_e_bi1_eq, ↓e_bi, ↓k_e_callx2_eq, ↓k_e_callx1_eq, ↓e_callx, ↓k_e_tx5_eq, ↓k_e_tx4_eq, ↓k_e_tx3_eq, ↓k_e_tx2_eq, ↓k_e_tx1_eq, ↓e_tx, ↓k_e_ix4_eq, ↓k_e_ix3_eq, ↓k_e_ix2_eq, ↓k_e_ix1_eq, ↓e_ix, ↓k_e_sl4_eq, ↓k_e_sl3_eq, ↓k_e_sl2_eq, ↓k_e_sl1_eq, ↓e_sl, ↓k_e_fmt2_eq, ↓k_e_fmt1_eq, ↓e_fmt, ↓k_e_revt2_eq, ↓k_e_revt1_eq, ↓e_revt, ↓k_e_js1_eq, ↓e_js, ↓dj_nil', ↓k_dj_cons'3_eq, ↓k_dj_cons'2_eq, ↓k_dj_cons'1_eq, ↓dj_cons', ↓k_e_rev2_eq, ↓k_e_rev1_eq, ↓e_rev, ↓eltM_eq, ↓k_e_comp2_eq, ↓k_e_comp1_eq, ↓e_comp, ↓e_pop0, ↓a_nil', ↓k_a_cons'3_eq, ↓k_a_cons'2_eq, ↓k_a_cons'1_eq, ↓a_cons', ↓d_nil', ↓k_d_cons'3_eq, ↓k_d_cons'2_eq, ↓k_d_cons'1_eq, ↓d_cons', ↓v_nil', ↓k_v_cons'3_eq, ↓k_v_cons'2_eq, ↓k_v_cons'1_eq, ↓v_cons', ↓k_i_zip'4_eq, ↓k_i_zip'3_eq, ↓k_i_zip'2_eq, ↓k_i_zip'1_eq, ↓i_zip', ↓k_i_zipL'4_eq, ↓k_i_zipL'3_eq, ↓k_i_zipL'2_eq, ↓k_i_zipL'1_eq, ↓i_zipL', ↓k_i_rng1'1_eq, ↓i_rng1', ↓k_i_rng2'3_eq, ↓k_i_rng2'2_eq, ↓k_i_rng2'1_eq, ↓i_rng2', ↓k_i_enm'2_eq, ↓k_i_enm'1_eq, ↓i_enm', ↓k_i_seqI'2_eq, ↓k_i_seqI'1_eq, ↓i_seqI', ↓partO_var, ↓condB_var, ↓partO_cst, ↓condB_cst, ↓partO_bin, ↓condB_bin, ↓partO_neg, ↓condB_neg, ↓partO_ix, ↓condB_ix, ↓partO_bi, ↓condB_bi, ↓partO_call, ↓condB_call, ↓partO_callb, ↓condB_callb, ↓partO_cmp, ↓condB_cmp, ↓partO_nt, ↓condB_nt, ↓partO_an, ↓condB_an, ↓partO_orr, ↓condB_orr, ↓partO_callk, ↓condB_callk, ↓partO_ite, ↓condB_ite, ↓partO_chn, ↓condB_chn, ↓partO_pop0, ↓condB_pop0, ↓st_skip', ↓k_st_seq'1_eq, ↓st_seq', ↓k_st_asg'3_eq, ↓k_st_asg'2_eq, ↓k_st_asg'1_eq, ↓st_asg', ↓k_st_asgT'3_eq, ↓k_st_asgT'2_eq, ↓k_st_asgT'1_eq, ↓st_asgT', ↓k_st_asgP'2_eq, ↓k_st_asgP'1_eq, ↓st_asgP', ↓k_st_ixs'7_eq, ↓k_st_ixs'6_eq, ↓k_st_ixs'5_eq, ↓k_st_ixs'4_eq, ↓k_st_ixs'3_eq, ↓k_st_ixs'2_eq, ↓k_st_ixs'1_eq, ↓st_ixs', ↓k_st_app'5_eq, ↓k_st_app'4_eq, ↓k_st_app'3_eq, ↓k_st_app'2_eq, ↓k_st_app'1_eq, ↓st_app', ↓k_st_exp'1_eq, ↓st_exp', ↓k_st_ret'1_eq, ↓st_ret', ↓k_st_ifs'1_eq, ↓st_ifs', ↓k_st_fr'1_eq, ↓st_fr', ↓st_rais', ↓k_ixM_eq5_eq, ↓k_ixM_eq4_eq, ↓k_ixM_eq3_eq, ↓k_ixM_eq2_eq, ↓k_ixM_eq1_eq, ↓ixM_eq, ↓st_ix2', ntB_eq, blK_eq, callvR_fn, okL_eq, nxK_eq, putK_eq, frK_eq, setVsK_eq, setTgsK_eq, consK_eq, frzsK_eq, someK_eq, partK_eq, lk0, il0, lk1, il1, lk2, il2, lk3, il3, lk4, il4, lk5, il5, lk6, il6, lk7, il7, lk8, il8, lk9, il9, lk10, il10, lk11, il11, lk12, il12, lk13, il13, lk14, il14, lk15, il15, lk16, il16, R.bind_ok, R.bind_exc, R.bind_bad, slE_fr, slE_own, slD_fr, slD_own, slF_fr, slF_own, slW_own, slR_fr, deref_fr, deref_own, deref_sl, frz_fr, frz_own, frz_sl, ownAt_eq, frAt_eq, ofO_some, ofO_none, rvB_fr, rvI_fr, andG_t, andG_f, orG_t, orG_f, ifR_t, ifR_f, okM_eq, badM_eq, pop0S_cons, seqOf_lst, seqOf_tup, zipM_l, zipM_t, zipLM_l, enmM_l, asExn_x, asStr_s, frzs_nil, frzs_cons, partO_nil, condB_nil, settle_fr, settle_own, stB_t, stB_f, settle_sl, noSl_fr, noSl_own, noSl_sl, setV_fr, setV_own, setV_sl, setVs_nil, setVs_cons, setTg_nm, setTg_tp, setTgs_nil, setTgs_cons, putM_eq, raiseM_eq, thenS_nx, thenS_ret, toM_fr, toM_own, toM_exc, toMb_fr, toMb_own, keep_exc, obs_mk, env_mk, finB_f, finB_t, endB_nx, endB_fr, endB_own, endS_own, endS_fr, endB_slf, endB_slt, endB_exc, ix2G_2, ix2K_eq, wipe_nil, wipe_cons, Nat.beq, sA0, sA1, sA2, sA3, sA4, sA5, sA6, sA7, sA8, sA9, sA10, sA11, sA12, sA13, sA14, sA15, sA16, sA17, sA18, sA19, sP0, sP1, sP2, sP3, sP4, sP5, sP6, sP7, sP8, sP9, sP10, sP11, sP12, sP13, sP14, sP15, sP16, sP17, sP18, sP19, o0_, o1_, o2_, o3_, o4_, o5_, o6_, o7_, o8_, o9_, o10_, o11_, o12_, o13_, o14_, o15_, o16_, o17_, o18_, o19_, o20_, o21_, o22_, o23_, o24_, o25_, o26_, o27_, o28_, o29_, o30_, o31_, o32_, o33_, o34_, o35_, o36_, o37_, o38_, o39_, o40_, o41_, o42_, o43_, o44_, o45_, o46_, o47_, o48_, o49_, o50_, o51_, o52_, o53_, o54_, o55_, o56_, o57_, o58_, o59_, o60_, o61_, o62_, o63_, o64_, o65_, o66_, turnR_eq, turnK_eq, cT4_eq, cT3_eq, cT0_eq, cT2_eq, cT1_eq, cTurn_eq, forGo_nil, atI0, atI1, atI2, atI3, pyEq_ii, pyEq_bb, Int.reduceBEq, Int.reduceLT, Int.reduceLE, Int.reduceAdd, Int.reduceSub, Int.reduceNeg, Int.reduceMul, decide_true, decide_false, Bool.not_true, Bool.not_false, Bool.false_and, Bool.true_and, Bool.and_true, Bool.and_false, Bool.or_false, Bool.false_or, Bool.true_or, Bool.or_true])
local macro_rules | `(tactic| walk_at "ev?") => `(tactic| (try simp only [↓e_var, ↓e_cst, ↓k_e_bin4_eq, ↓k_e_bin3_eq, ↓k_e_bin2_eq, ↓k_e_bin1_eq, ↓e_bin, ↓k_e_neg2_eq, ↓k_e_neg1_eq, ↓e_neg, ↓condE_eq, ↓k_e_nt1_eq, ↓e_nt, ↓k_e_an2_eq, ↓k_e_an1_eq, ↓e_an, ↓k_e_orr2_eq, ↓k_e_orr1_eq, ↓e_orr, ↓k_e_ite1_eq, ↓e_ite, ↓k_e_tup1_eq, ↓e_tup, ↓k_e_lst1_eq, ↓e_lst, ↓k_e_cmp4_eq, ↓k_e_cmp3_eq, ↓k_e_cmp2_eq, ↓k_e_cmp1_eq, ↓e_cmp, ↓k_chnR_eq3_eq, ↓k_chnR_eq2_eq, ↓k_chnR_eq1_eq, ↓chnR_eq, ↓k_e_chn6_eq, ↓k_e_chn5_eq, ↓k_e_chn4_eq, ↓k_e_chn3_eq, ↓k_e_chn2_eq, ↓k_e_chn1_eq, ↓e_chn, ↓callR_eq, ↓k_e_call1_eq, ↓e_call, ↓callbR_eq, ↓k_e_callb3_eq, ↓k_e_callb2_eq, ↓k_e_callb1_eq, ↓e_callb, ↓callkR_eq, ↓k_e_callk2_eq, ↓k_e_callk1_eq, ↓e_callk, ↓callvA_eq, ↓k_e_callv1_eq, ↓e_callv, ↓k_e_bi1_eq, ↓e_bi, ↓k_e_callx2_eq, ↓k_e_callx1_eq, ↓e_callx, ↓k_e_tx5_eq, ↓k_e_tx4_eq, ↓k_e_tx3_eq, ↓k_e_tx2_eq, ↓k_e_tx1_eq, ↓e_tx, ↓k_e_ix4_eq, ↓k_e_ix3_eq, ↓k_e_ix2_eq, ↓k_e_ix1_eq, ↓e_ix, ↓k_e_sl4_eq, ↓k_e_sl3_eq, ↓k_e_sl2_eq, ↓k_e_sl1_eq, ↓e_sl, ↓k_e_fmt2_eq, ↓k_e_fmt1_eq, ↓e_fmt, ↓k_e_revt2_eq, ↓k_e_revt1_eq, ↓e_revt, ↓k_e_js1_eq, ↓e_js, ↓dj_nil', ↓k_dj_cons'3_eq, ↓k_dj_cons'2_eq, ↓k_dj_cons'1_eq, ↓dj_cons', ↓k_e_rev2_eq, ↓k_e_rev1_eq, ↓e_rev, ↓eltM_eq, ↓k_e_comp2_eq, ↓k_e_comp1_eq, ↓e_comp, ↓e_pop0, ↓a_nil', ↓k_a_cons'3_eq, ↓k_a_cons'2_eq, ↓k_a_cons'1_eq, ↓a_cons', ↓d_nil', ↓k_d_cons'3_eq, ↓k_d_cons'2_eq, ↓k_d_cons'1_eq, ↓d_cons', ↓v_nil', ↓k_v_cons'3_eq, ↓k_v_cons'2_eq, ↓k_v_cons'1_eq, ↓v_cons', ↓k_i_zip'4_eq, ↓k_i_zip'3_eq, ↓k_i_zip'2_eq, ↓k_i_zip'1_eq, ↓i_zip', ↓k_i_zipL'4_eq, ↓k_i_zipL'3_eq, ↓k_i_zipL'2_eq, ↓k_i_zipL'1_eq, ↓i_zipL', ↓k_i_rng1'1_eq, ↓i_rng1', ↓k_i_rng2'3_eq, ↓k_i_rng2'2_eq, ↓k_i_rng2'1_eq, ↓i_rng2', ↓k_i_enm'2_eq, ↓k_i_enm'1_eq, ↓i_enm', ↓k_i_seqI'2_eq, ↓k_i_seqI'1_eq, ↓i_seqI', ↓partO_var, ↓condB_var, ↓partO_cst, ↓condB_cst, ↓partO_bin, ↓condB_bin, ↓partO_neg, ↓condB_neg, ↓partO_ix, ↓condB_ix, ↓partO_bi, ↓condB_bi, ↓partO_call, ↓condB_call, ↓partO_callb, ↓condB_callb, ↓partO_cmp, ↓condB_cmp, ↓partO_nt, ↓condB_nt, ↓partO_an, ↓condB_an, ↓partO_orr, ↓condB_orr, ↓partO_callk, ↓condB_callk, ↓partO_ite, ↓condB_ite, ↓partO_chn, ↓condB_chn, ↓partO_pop0, ↓condB_pop0, ↓st_skip', ↓k_st_seq'1_eq, ↓st_seq', ↓k_st_asg'3_eq, ↓k_st_asg'2_eq, ↓k_st_asg'1_eq, ↓st_asg', ↓k_st_asgT'3_eq, ↓k_st_asgT'2_eq, ↓k_st_asgT'1_eq, ↓st_asgT', ↓k_st_asgP'2_eq, ↓k_st_asgP'1_eq, ↓st_asgP', ↓k_st_ixs'7_eq, ↓k_st_ixs'6_eq, ↓k_st_ixs'5_eq, ↓k_st_ixs'4_eq, ↓k_st_ixs'3_eq, ↓k_st_ixs'2_eq, ↓k_st_ixs'1_eq, ↓st_ixs', ↓k_st_app'5_eq, ↓k_st_app'4_eq, ↓k_st_app'3_eq, ↓k_st_app'2_eq, ↓k_st_app'1_eq, ↓st_app', ↓k_st_exp'1_eq, ↓st_exp', ↓k_st_ret'1_eq, ↓st_ret', ↓k_st_ifs'1_eq, ↓st_ifs', ↓k_st_fr'1_eq, ↓st_fr', ↓st_rais', ↓k_ixM_eq5_eq, ↓k_ixM_eq4_eq, ↓k_ixM_eq3_eq, ↓k_ixM_eq2_eq, ↓k_ixM_eq1_eq, ↓ixM_eq, ↓st_ix2', ntB_eq, blK_eq, callvR_fn, okL_eq, nxK_eq, putK_eq, frK_eq, setVsK_eq, setTgsK_eq, consK_eq, frzsK_eq, someK_eq, partK_eq, lk0, il0, lk1, il1, lk2, il2, lk3, il3, lk4, il4, lk5, il5, lk6, il6, lk7, il7, lk8, il8, lk9, il9, lk10, il10, lk11, il11, lk12, il12, lk13, il13, lk14, il14, lk15, il15, lk16, il16, R.bind_ok, R.bind_exc, R.bind_bad, slE_fr, slE_own, slD_fr, slD_own, slF_fr, slF_own, slW_own, slR_fr, deref_fr, deref_own, deref_sl, frz_fr, frz_own, frz_sl, ownAt_eq, frAt_eq, ofO_some, ofO_none, rvB_fr, rvI_fr, andG_t, andG_f, orG_t, orG_f, ifR_t, ifR_f, okM_eq, badM_eq, pop0S_cons, seqOf_lst, seqOf_tup, zipM_l, zipM_t, zipLM_l, enmM_l, asExn_x, asStr_s, frzs_nil, frzs_cons, partO_nil, condB_nil, settle_fr, settle_own, stB_t, stB_f, settle_sl, noSl_fr, noSl_own, noSl_sl, setV_fr, setV_own, setV_sl, setVs_nil, setVs_cons, setTg_nm, setTg_tp, setTgs_nil, setTgs_cons, putM_eq, raiseM_eq, thenS_nx, thenS_ret, toM_fr, toM_own, toM_exc, toMb_fr, toMb_own, keep_exc, obs_mk, env_mk, finB_f, finB_t, endB_nx, endB_fr, endB_own, endS_own, endS_fr, endB_slf, endB_slt, endB_exc, ix2G_2, ix2K_eq, wipe_nil, wipe_cons, Nat.beq, sA0, sA1, sA2, sA3, sA4, sA5, sA6, sA7, sA8, sA9, sA10, sA11, sA12, sA13, sA14, sA15, sA16, sA17, sA18, sA19, sP0, sP1, sP2, sP3, sP4, sP5, sP6, sP7, sP8, sP9, sP10, sP11, sP12, sP13, sP14, sP15, sP16, sP17, sP18, sP19, o0_, o1_, o2_, o3_, o4_, o5_, o6_, o7_, o8_, o9_, o10_, o11_, o12_, o13_, o14_, o15_, o16_, o17_, o18_, o19_, o20_, o21_, o22_, o23_, o24_, o25_, o26_, o27_, o28_, o29_, o30_, o31_, o32_, o33_, o34_, o35_, o36_, o37_, o38_, o39_, o40_, o41_, o42_, o43_, o44_, o45_, o46_, o47_, o48_, o49_, o50_, o51_, o52_, o53_, o54_, o55_, o56_, o57_, o58_, o59_, o60_, o61_, o62_, o63_, o64_, o65_, o66_, turnR_eq, turnK_eq, cT4_eq, cT3_eq, cT0_eq, cT2_eq, cT1_eq, cTurn_eq, forGo_nil, atI0, atI1, atI2, atI3, pyEq_ii, pyEq_bb, Int.reduceBEq, Int.reduceLT, Int.reduceLE, Int.reduceAdd, Int.reduceSub, Int.reduceNeg, Int.reduceMul, decide_true, decide_false, Bool.not_true, Bool.not_false, Bool.false_and, Bool.true_and, Bool.and_true, Bool.and_false, Bool.or_false, Bool.false_or, Bool.true_or, Bool.or_true]))

theorem eqvAll_refl : ∀ xs : List PV, (∀ x ∈ xs, PyData.eqv (toD x) (toD x) = true) → PyData.eqvAll (toDs xs) (toDs xs) = true
  | [], _ => rfl
  | x :: xs, h => by
    simp only [toDs, PyData.eqvAll, h x (by simp), eqvAll_refl xs fun y hy => h y (by simp [hy]), Bool.and_self]
theorem eqP_refl {L d : Nat} {v : PV} (h : PL L d v) : eqP v v = true := by
  unfold eqP
  induction h with
  | non => rfl
  | bl => simp [toD, PyData.eqv]
  | int => simp [toD, PyData.eqv]
  | str => simp [toD, PyData.eqv]
  | tup _ _ ih => simp only [toD, PyData.eqv]; exact eqvAll_refl _ ih
  | lst _ _ ih => simp only [toD, PyData.eqv]; exact eqvAll_refl _ ih
theorem pyEq_refl {L d : Nat} {v : PV} (h : PL L d v) (hd : d ≤ 64) : pyEq v v = some true := by
  rw [pyEq_pl h h hd hd, eqP_refl h]
theorem pl_pair {L d : Nat} {a b : PV} (ha : PL L d a) (hb : PL L d b) (h : 2 ≤ L) : PL L (d + 1) (.tup [a, b]) := .tup (by simpa using h) fun x hx => by
  simp only [List.mem_cons, List.not_mem_nil, or_false] at hx
  rcases hx with rfl | rfl
  · exact ha
  · exact hb
theorem ok_txt : PyData.strOk "text" = true ∧ PyData.strOk "" = true ∧ PyData.strOk "script" = true := by decide +kernel
theorem lam8 {n d : Nat} {ob : List Ob} {v : PV} {r : CR} (hd : d = 23 ∨ d = 25 ∨ d = 26 ∨ d = 27) (h : callF D n 8 [v] ob = r) (hr : (∃ u o, r = .ok u false .non o) ∨ ∃ c o, r = .exc c o) : callF D (n + 1) d [v] ob = r := by
  rcases hd with rfl | rfl | rfl | rfl
  · rw [c23]; simp only [def23]; walk_at "ev"; rw [h]
    rcases hr with ⟨u, o, rfl⟩ | ⟨c, o, rfl⟩ <;> walk_at "ev"
  · rw [c25]; simp only [def25]; walk_at "ev"; rw [h]
    rcases hr with ⟨u, o, rfl⟩ | ⟨c, o, rfl⟩ <;> walk_at "ev"
  · rw [c26]; simp only [def26]; walk_at "ev"; rw [h]
    rcases hr with ⟨u, o, rfl⟩ | ⟨c, o, rfl⟩ <;> walk_at "ev"
  · rw [c27]; simp only [def27]; walk_at "ev"; rw [h]
    rcases hr with ⟨u, o, rfl⟩ | ⟨c, o, rfl⟩ <;> walk_at "ev"
/-- a text that is none is told so -/
theorem toldNo {n d : Nat} {ob : List Ob} {v : PV} (hd : d = 23 ∨ d = 25 ∨ d = 26 ∨ d = 27) (h : callF D n 8 [v] ob = .exc 1 ob) : callF D (n + 2) 16 [.clo d [v]] ob = .ok (.tup [.non, .str "text"]) false .non ob :=
  sToldX (c := 1) (lam8 hd h (.inr ⟨_, _, rfl⟩)) (by rcases hd with rfl | rfl | rfl | rfl <;> rfl) (by decide)
theorem toldYes {n d : Nat} {ob : List Ob} {v u : PV} (hd : d = 23 ∨ d = 25 ∨ d = 26 ∨ d = 27) (h : callF D n 8 [v] ob = .ok u false .non ob) : callF D (n + 2) 16 [.clo d [v]] ob = .ok (.tup [u, .str ""]) false .non ob :=
  sTold (lam8 hd h (.inl ⟨_, _, rfl⟩)) (by rcases hd with rfl | rfl | rfl | rfl <;> rfl)
def bodyA : Qv.St := match def21.body with
  | .seq (.fr _ _ b) _ => b
  | _ => .skip
def bodyT : Qv.St := match def21.body with
  | .seq _ b => b
  | _ => .skip
def bodyB : Qv.St := frB (hdS (dropS 4 bodyA))
def bodyC : Qv.St := frB (hdS (dropS 5 bodyA))
theorem tail21 {x0 x1 x2 x3 x4 x5 x6 x7 x8 x9 : Qv.Slot} : endB false (dS (callF D 39) bodyT ⟨[x0, x1, x2, x3, x4, x5, x6, x7, x8, x9], []⟩) = .ok (.bl true) false .non [] := by kernel_rfl
theorem isx_non : opCmp .isx .non .non = some true := rfl
theorem isx_tup {xs : List PV} : opCmp .isx (.tup xs) .non = some false := rfl
theorem pair_data {a b : PV} (ha : a.data = true) (hb : b.data = true) : (PV.tup [a, b]).data = true := by simp only [PV.data, PV.datas, ha, hb, Bool.and_self]
theorem turnB {ob : List Ob} {v : PV} {t : Str} {bs : List Int} {x0 x1 x3 x5 x6 x7 x8 x9 : Qv.Slot} (ht : PyData.strOk t = true) (hl : t.length ≤ 300) :
    ∃ bs' y6 y7, turnR (setTg (.nm 5)) (dS (callF D 39) bodyB) v ⟨[x0, x1, .own (bagP bs), x3, .fr (.str t), x5, x6, x7, x8, x9], ob⟩ = .ok .nx ⟨[x0, x1, .own (bagP bs'), x3, .fr (.str t), .fr v, y6, y7, x8, x9], ob⟩ := by
  simp only [bodyB, bodyA, def21, dropS, hdS, frB]
  walk_at "ev"
  obtain ⟨t', bs1, e, to, tl'⟩ := sBent (n := 36) (ob := ob) ht hl bs
  rw [e]; walk_at "ev"
  rcases sLawRead (n := 35) (ob := ob) to tl' with ⟨W, ds, hT, e⟩ | ⟨hT, e⟩
  · rw [e]; walk_at "ev"
    obtain ⟨W2, ds2, hT2, e2⟩ := sRead (n := 33) (ob := ob) to tl' ⟨W, ds, hT⟩
    rw [text_det hT2 hT] at e2
    have hp := script_pl (W := W) (ds := ds) (by have := hT.1.len; omega)
    rw [toldYes (n := 37) (d := 26) (by simp) e2, keep_ok (pair_data hp.dat rfl)]
    unfold encS at hp ⊢
    walk_at "ev"
    rw [isx_tup]; walk_at "ev"
    rw [pyEq_refl (pl_pair hp (PL.str ok_txt.2.1) (by decide)) (by decide)]; walk_at "ev"
    exact ⟨_, _, _, rfl⟩
  · rw [e]; walk_at "ev"
    have e2 := sReadBad (n := 33) (ob := ob) to tl' hT
    rw [toldNo (n := 37) (d := 26) (by simp) e2, keep_ok (pair_data rfl rfl)]; walk_at "ev"
    rw [isx_non]; walk_at "ev"
    rw [pyEq_refl (pl_pair (L := 2) (d := 0) .non (PL.str ok_txt.1) (by decide)) (by decide)]; walk_at "ev"
    exact ⟨_, _, _, rfl⟩
theorem turnC {ob : List Ob} {v : PV} {x0 x1 x2 x3 x4 x5 x6 x7 x8 x9 : Qv.Slot} (hv : callF D 37 8 [v] ob = .exc 1 ob) :
    turnR (setTg (.nm 8)) (dS (callF D 39) bodyC) v ⟨[x0, x1, x2, x3, x4, x5, x6, x7, x8, x9], ob⟩ = .ok .nx ⟨[x0, x1, x2, x3, x4, x5, x6, x7, .fr v, x9], ob⟩ := by
  simp only [bodyC, bodyA, def21, dropS, hdS, frB]
  walk_at "ev"
  rw [toldNo (n := 37) (d := 25) (by simp) hv, keep_ok (pair_data rfl rfl)]; walk_at "ev"
  rw [pyEq_refl (pl_pair (L := 2) (d := 0) .non (PL.str ok_txt.1) (by decide)) (by decide)]; walk_at "ev"
theorem consts : ∀ s ∈ (["", "wheels", "wheels 4", "wheel 1"] : List Str), s.length ≤ 20 ∧ PyData.strOk s = true ∧ (lawCb s && goodScript (lawV s)) = false := by
  intro s hs
  simp only [List.mem_cons, List.not_mem_nil, or_false] at hs
  rcases hs with rfl | rfl | rfl | rfl
  · exact ⟨by decide +kernel, by decide +kernel, by kernel_rfl⟩
  · exact ⟨by decide +kernel, by decide +kernel, by kernel_rfl⟩
  · exact ⟨by decide +kernel, by decide +kernel, by kernel_rfl⟩
  · exact ⟨by decide +kernel, by decide +kernel, by kernel_rfl⟩
theorem turnA {ob : List Ob} {ns : List Int} {k : Int} (hk : 0 ≤ k ∧ k ≤ 100) {x1 x2 x3 x4 x5 x6 x7 x8 x9 : Qv.Slot} :
    ∃ y2 y3 y4 y5 y6 y7 y8, turnR (setTg (.nm 1)) (dS (callF D 39) bodyA) (.int k) ⟨[.fr (.lst (ns.map .int)), x1, x2, x3, x4, x5, x6, x7, x8, x9], ob⟩ = .ok .nx ⟨[.fr (.lst (ns.map .int)), .fr (.int k), y2, y3, y4, y5, y6, y7, y8, x9], ob⟩ := by
  simp only [bodyA, def21]
  walk_at "ev"
  obtain ⟨bs, e⟩ := sBag (n := 36) (ob := ob) (ns := ns) hk
  rw [e]; walk_at "ev"
  obtain ⟨bs1, W, ds, e, hs⟩ := sLawScript (n := 36) (ob := ob) bs (most := 4) (wm := 3) (by decide) (by decide)
  simp only [Int.cast_ofNat_Int] at e
  rw [e]; walk_at "ev"
  rw [sLawText (n := 38) hs]; walk_at "ev"
  rw [sScriptText (n := 34) hs]; walk_at "ev"
  obtain ⟨to, tl'⟩ := scT_facts hs
  rw [pyEq_ss to to, beq_self_eq_true]; walk_at "ev"
  have hT : TextOf (scT W ds) W ds := ⟨hs, rfl⟩
  obtain ⟨W2, ds2, hT2, e2⟩ := sRead (n := 33) (ob := ob) to (by omega) ⟨W, ds, hT⟩
  rw [text_det hT2 hT] at e2
  have hp := script_pl (W := W) (ds := ds) (by have := hs.len; omega)
  rw [toldYes (n := 37) (d := 27) (by simp) e2, keep_ok (pair_data hp.dat rfl)]; walk_at "ev"
  rw [pyEq_refl (pl_pair hp (PL.str ok_txt.2.1) (by decide)) (by decide)]; walk_at "ev"
  rw [rng1_ok (by decide) (by decide)]; walk_at "ev"
  obtain ⟨s', e, bs', y5, y6, y7, rfl⟩ := forGo_nx (g := setTg (.nm 5)) (b := dS (callF D 39) bodyB)
    (fun vs s => ∃ (bs' : List Int) (y5 y6 y7 : Qv.Slot), s = ⟨[.fr (.lst (ns.map .int)), .fr (.int k), .own (bagP bs'), .fr (encS W ds), .fr (.str (scT W ds)), y5, y6, y7, x8, x9], ob⟩)
    (by
      rintro v vs s ⟨bs', y5, y6, y7, rfl⟩
      obtain ⟨bs2, z6, z7, e⟩ := turnB (ob := ob) (v := v) (bs := bs') (x0 := .fr (.lst (ns.map .int))) (x1 := .fr (.int k)) (x3 := .fr (encS W ds)) (x5 := y5) (x6 := y6) (x7 := y7) (x8 := x8) (x9 := x9) to (by omega)
      exact ⟨_, e, _, _, _, _, rfl⟩)
    (rngP 0 14) ⟨[.fr (.lst (ns.map .int)), .fr (.int k), .own (bagP bs1), .fr (encS W ds), .fr (.str (scT W ds)), x5, x6, x7, x8, x9], ob⟩ ⟨_, _, _, _, rfl⟩
  unfold forR
  simp only [bodyB, bodyA, def21, dropS, hdS, frB] at e
  rw [e]; walk_at "ev"
  have nlo : PyData.strOk nlS = true := by decide +kernel
  have blo : PyData.strOk blS = true := by decide +kernel
  rw [opAddS (by rw [nl_len]; omega)]; walk_at "ev"
  rw [opAddS (by rw [nl_len]; omega)]; walk_at "ev"
  rw [opAddS (by rw [bl_len]; omega)]; walk_at "ev"
  obtain ⟨s2, e2, y8, rfl, _⟩ := forGo_nx (g := setTg (.nm 8)) (b := dS (callF D 39) bodyC)
    (fun vs s => ∃ (y8 : Qv.Slot), s = ⟨[.fr (.lst (ns.map .int)), .fr (.int k), .own (bagP bs'), .fr (encS W ds), .fr (.str (scT W ds)), y5, y6, y7, y8, x9], ob⟩ ∧ ∀ v ∈ vs, callF D 37 8 [v] ob = .exc 1 ob)
    (by
      rintro v vs s ⟨y8, rfl, hv⟩
      exact ⟨_, turnC (hv v (by simp)), _, rfl, fun x hx => hv x (by simp [hx])⟩)
    [.non, .int 5, .str "", .str "wheels", .str "wheels 4", .str "wheel 1", .tup [.str (scT W ds)], .str (scT W ds ++ nlS), .str (nlS ++ scT W ds), .str (blS ++ scT W ds)]
    ⟨[.fr (.lst (ns.map .int)), .fr (.int k), .own (bagP bs'), .fr (encS W ds), .fr (.str (scT W ds)), y5, y6, y7, x8, x9], ob⟩
    ⟨_, rfl, by
      intro v hv
      simp only [List.mem_cons, List.not_mem_nil, or_false] at hv
      have cst : ∀ s ∈ (["", "wheels", "wheels 4", "wheel 1"] : List Str), callF D 37 8 [.str s] ob = .exc 1 ob := fun s h => by
        have c := consts s h
        exact sReadBad (n := 33) c.2.1 (by omega) (noText c.2.2)
      rcases hv with rfl | rfl | rfl | rfl | rfl | rfl | rfl | rfl | rfl | rfl
      · exact sReadNo (n := 36) rfl
      · exact sReadNo (n := 36) rfl
      · exact cst _ (by simp)
      · exact cst _ (by simp)
      · exact cst _ (by simp)
      · exact cst _ (by simp)
      · exact sReadNo (n := 36) rfl
      · exact sReadBad (n := 33) (app_ok to nlo) (by rw [len_app, nl_len]; omega) odd1
      · exact sReadBad (n := 33) (app_ok nlo to) (by rw [len_app, nl_len]; omega) odd2
      · exact sReadBad (n := 33) (app_ok blo to) (by rw [len_app, bl_len]; omega) odd3⟩
  simp only [bodyC, bodyA, def21, dropS, hdS, frB] at e2
  unfold forR
  rw [e2]; walk_at "ev"
  have h24 : callF D 38 24 [encS W ds] ob = .exc 0 ob := by
    rw [c24 (n := 37)]; simp only [def24, encS]
    walk_at "ev"
    have hsp := script_pl (W := W) (ds := ds) (by have := hs.len; omega)
    rw [c6 (n := 36)]; simp only [def6]
    walk_at "ev"
    rw [sNeedS (n := 32) (L := 20) (d := 4) ?_ (by decide)]
    · have e : goodScript (.lst [.int W, .tup (ds.map Dd.enc)]) = false := rfl
      rw [e]
      simp only [Bool.false_eq_true, if_false]
      walk_at "ev"
    · cases hsp with
      | tup a b => exact .lst a b
  rw [sToldX (n := 37) (d := 24) (c := 0) h24 rfl (by decide), keep_ok (pair_data rfl rfl)]; walk_at "ev"
  have e0 : nmC 0 = "script" := rfl
  rw [e0, pyEq_refl (pl_pair (L := 2) (d := 0) .non (PL.str ok_txt.2.2) (by decide)) (by decide)]; walk_at "ev"
  exact ⟨_, _, _, _, _, _, _, rfl⟩
theorem law_plain (ns : List Int) : callF D 40 21 [.lst (ns.map .int)] [] = .ok (.bl true) false .non [] := by
  have hc : callF D 40 21 [.lst (ns.map .int)] [] = endB false (dS (callF D 39) def21.body ⟨[.fr (.lst (ns.map .int)), .no, .no, .no, .no, .no, .no, .no, .no, .no], []⟩) := c21 (n := 39)
  rw [hc]
  have hb : def21.body = .seq (.fr (.nm 1) (.rng1 (.cst (.int 8))) bodyA) bodyT := rfl
  rw [hb, st_seq']
  obtain ⟨s', e, x1, x2, x3, x4, x5, x6, x7, x8, x9, rfl, _⟩ := forGo_nx (g := setTg (.nm 1)) (b := dS (callF D 39) bodyA)
    (fun vs s => ∃ x1 x2 x3 x4 x5 x6 x7 x8 x9, s = ⟨[.fr (.lst (ns.map .int)), x1, x2, x3, x4, x5, x6, x7, x8, x9], []⟩ ∧ ∀ v ∈ vs, ∃ j : Int, v = .int j ∧ 0 ≤ j ∧ j < 8)
    (by
      rintro v vs s ⟨x1, x2, x3, x4, x5, x6, x7, x8, x9, rfl, hv⟩
      obtain ⟨j, rfl, j0, j1⟩ := hv v (by simp)
      obtain ⟨y2, y3, y4, y5, y6, y7, y8, e⟩ := turnA (ob := []) (ns := ns) (k := j) ⟨j0, by omega⟩ (x1 := x1) (x2 := x2) (x3 := x3) (x4 := x4) (x5 := x5) (x6 := x6) (x7 := x7) (x8 := x8) (x9 := x9)
      exact ⟨_, e, _, _, _, _, _, _, _, _, _, rfl, fun x hx => hv x (by simp [hx])⟩)
    (rngP 0 8) ⟨[.fr (.lst (ns.map .int)), .no, .no, .no, .no, .no, .no, .no, .no, .no], []⟩
    ⟨_, _, _, _, _, _, _, _, _, rfl, fun v hv => mem_rngP hv⟩
  have hfor : dS (callF D 39) (.fr (.nm 1) (.rng1 (.cst (.int 8))) bodyA) ⟨[.fr (.lst (ns.map .int)), .no, .no, .no, .no, .no, .no, .no, .no, .no], []⟩ = .ok .nx ⟨[.fr (.lst (ns.map .int)), x1, x2, x3, x4, x5, x6, x7, x8, x9], []⟩ := by
    rw [st_fr', i_rng1', e_cst, R.bind_ok]
    walk_at "ev"
    rw [rng1_ok (by decide) (by decide), R.bind_ok]
    exact e
  rw [hfor, R.bind_ok]
  exact tail21
theorem pure_law (ns : List Int) (_ : ns.length ≤ 63) : ∃ n out obs, n ≤ 40 ∧ callF D 40 21 [.lst (ns.map .int)] [] = .ok (.bl true) false out obs := ⟨0, _, _, by decide, law_plain ns⟩
end K14.P
end
section
set_option Elab.async false
set_option linter.all false
set_option maxRecDepth 100000
set_option maxHeartbeats 0
namespace K14
open PySem PySem.Spec PyProof.Rows L2
end K14
open PySem PySem.W PyProof.Rows
theorem PySem.Challenge.cw_anywheels_k14_texts_of_scripts_holds : PySem.Challenge.rw_anywheels_k14_texts_of_scripts.Holds := by
  refine hd ?_
  k_fill
  refine LamX.walk_ofTs (l := PySem.Challenge.rw_anywheels_k14_texts_of_scripts) (n := 63) (k := 40) (x := "script") (CX := fun w => L2N.CX PySem.Challenge.rw_anywheels_k14_texts_of_scripts.prog w) rfl (by decide) rfl ⟨rfl, by decide, by decide⟩ (fun w h Y => PySem.W.km_in_of Y) ?F ?E
  case E =>
    intro w H s e s' h; obtain ⟨_, _, _, _, _, _, _, _, _, _, _, _, hE⟩ := h; exact hE
  case F =>
    intro w mg fa h Y KX G hmg
    have tabs := PySem.W.km_tabs_of Y
    refine' K14.all_mk KX G hmg ?a0 ?l0 ?c0 ?k0 ?a1 ?l1 ?c1 ?k1 ?a2 ?l2 ?c2 ?k2 ?a3 ?l3 ?c3 ?k3 ?a4 ?l4 ?c4 ?k4 ?a5 ?l5 ?c5 ?k5 ?a6 ?l6 ?c6 ?k6 ?a7 ?l7 ?c7 ?k7 ?a8 ?l8 ?c8 ?k8 ?a9 ?l9 ?c9 ?k9 ?a10 ?l10 ?c10 ?k10 ?a11 ?l11 ?c11 ?k11 ?a12 ?l12 ?c12 ?k12 ?a13 ?l13 ?c13 ?k13 ?a14 ?l14 ?c14 ?k14 ?a15 ?l15 ?c15 ?k15 ?a16 ?l16 ?c16 ?k16 ?a17 ?l17 ?c17 ?k17 ?a18 ?l18 ?c18 ?k18 ?a19 ?l19 ?c19 ?k19 ?a20 ?l20 ?c20 ?k20 ?a21 ?l21 ?c21 ?k21 ?z_all ?z_bool ?z_int ?z_isinstance ?z_len ?z_list ?z_range ?z_str ?z_tuple ?z_zip ?aC0 ?ic0 ?tc0 ?aC1 ?ic1 ?tc1 ?aC2 ?ic2 ?tc2 ?aC3 ?ic3 ?tc3 ?aC4 ?ic4 ?tc4 ?aC5 ?ic5 ?tc5 ?aC6 ?ic6 ?tc6 ?aC7 ?ic7 ?tc7 ?aC8 ?ic8 ?tc8 ?aC9 ?ic9 ?tc9 ?aC10 ?ic10 ?tc10 ?sW ?ec0 ?kc0 ?sc0b ?sc0v ?sc0w ?ex0 ?s0_0 ?s0_1 ?n0_1 ?s0_3 ?n0_3 ?s0_4 ?n0_4 ?s0_5 ?n0_5 ?s0_6 ?n0_6 ?s0_7 ?n0_7 ?s0_8 ?n0_8 ?s0_9 ?n0_9 ?s0_10 ?n0_10 ?ec1 ?kc1 ?sc1b ?sc1v ?sc1w ?ex1 ?s1_0 ?n1_0 ?s1_1 ?s1_3 ?n1_3 ?s1_4 ?n1_4 ?s1_5 ?n1_5 ?s1_6 ?n1_6 ?s1_7 ?n1_7 ?s1_8 ?n1_8 ?s1_9 ?n1_9 ?s1_10 ?n1_10 ?h21 ?lp21 ?tt21 ?nl ?pl
    case a0 => k_is
    case l0 => k_is
    case c0 => k_is
    case k0 => k_is
    case a1 => k_is
    case l1 => k_is
    case c1 => k_is
    case k1 => k_is
    case a2 => k_is
    case l2 => k_is
    case c2 => k_is
    case k2 => k_is
    case a3 => k_is
    case l3 => k_is
    case c3 => k_is
    case k3 => k_is
    case a4 => k_is
    case l4 => k_is
    case c4 => k_is
    case k4 => k_is
    case a5 => k_is
    case l5 => k_is
    case c5 => k_is
    case k5 => k_is
    case a6 => k_is
    case l6 => k_is
    case c6 => k_is
    case k6 => k_is
    case a7 => k_is
    case l7 => k_is
    case c7 => k_is
    case k7 => k_is
    case a8 => k_is
    case l8 => k_is
    case c8 => k_is
    case k8 => k_is
    case a9 => k_is
    case l9 => k_is
    case c9 => k_is
    case k9 => k_is
    case a10 => k_is
    case l10 => k_is
    case c10 => k_is
    case k10 => k_is
    case a11 => k_is
    case l11 => k_is
    case c11 => k_is
    case k11 => k_is
    case a12 => k_is
    case l12 => k_is
    case c12 => k_is
    case k12 => k_is
    case a13 => k_is
    case l13 => k_is
    case c13 => k_is
    case k13 => k_is
    case a14 => k_is
    case l14 => k_is
    case c14 => k_is
    case k14 => k_is
    case a15 => k_is
    case l15 => k_is
    case c15 => k_is
    case k15 => k_is
    case a16 => k_is
    case l16 => k_is
    case c16 => k_is
    case k16 => k_is
    case a17 => k_is
    case l17 => k_is
    case c17 => k_is
    case k17 => k_is
    case a18 => k_is
    case l18 => k_is
    case c18 => k_is
    case k18 => k_is
    case a19 => k_is
    case l19 => k_is
    case c19 => k_is
    case k19 => k_is
    case a20 => k_is
    case l20 => k_is
    case c20 => k_is
    case k20 => k_is
    case a21 => k_is
    case l21 => k_is
    case c21 => k_is
    case k21 => k_is
    case z_all => k_is
    case z_bool => k_is
    case z_int => k_is
    case z_isinstance => k_is
    case z_len => k_is
    case z_list => k_is
    case z_range => k_is
    case z_str => k_is
    case z_tuple => k_is
    case z_zip => k_is
    case aC0 => k_is
    case ic0 => k_is
    case tc0 => k_is
    case aC1 => k_is
    case ic1 => k_is
    case tc1 => k_is
    case aC2 => k_is
    case ic2 => k_is
    case tc2 => k_is
    case aC3 => k_is
    case ic3 => k_is
    case tc3 => k_is
    case aC4 => k_is
    case ic4 => k_is
    case tc4 => k_is
    case aC5 => k_is
    case ic5 => k_is
    case tc5 => k_is
    case aC6 => k_is
    case ic6 => k_is
    case tc6 => k_is
    case aC7 => k_is
    case ic7 => k_is
    case tc7 => k_is
    case aC8 => k_is
    case ic8 => k_is
    case tc8 => k_is
    case aC9 => k_is
    case ic9 => k_is
    case tc9 => k_is
    case aC10 => k_is
    case ic10 => k_is
    case tc10 => k_is
    case sW => k_is
    case ec0 => kernel_rfl
    case kc0 => k_is
    case sc0b => k_is
    case sc0v => k_is
    case sc0w => k_is
    case ex0 => exact ⟨by k_is, by k_is, by k_is, by k_is, by k_is, by k_is, by k_is, by k_is⟩
    case s0_0 => k_is
    case s0_1 => k_is
    case n0_1 => decide
    case s0_3 => k_is
    case n0_3 => decide
    case s0_4 => k_is
    case n0_4 => decide
    case s0_5 => k_is
    case n0_5 => decide
    case s0_6 => k_is
    case n0_6 => decide
    case s0_7 => k_is
    case n0_7 => decide
    case s0_8 => k_is
    case n0_8 => decide
    case s0_9 => k_is
    case n0_9 => decide
    case s0_10 => k_is
    case n0_10 => decide
    case ec1 => kernel_rfl
    case kc1 => k_is
    case sc1b => k_is
    case sc1v => k_is
    case sc1w => k_is
    case ex1 => exact ⟨by k_is, by k_is, by k_is, by k_is, by k_is, by k_is, by k_is, by k_is⟩
    case s1_0 => k_is
    case n1_0 => decide
    case s1_1 => k_is
    case s1_3 => k_is
    case n1_3 => decide
    case s1_4 => k_is
    case n1_4 => decide
    case s1_5 => k_is
    case n1_5 => decide
    case s1_6 => k_is
    case n1_6 => decide
    case s1_7 => k_is
    case n1_7 => decide
    case s1_8 => k_is
    case n1_8 => decide
    case s1_9 => k_is
    case n1_9 => decide
    case s1_10 => k_is
    case n1_10 => decide
    case h21 => (refine (?_ : PySem.W.codeHdIn _ _ 282 = true); kernel_rfl)
    case lp21 => kernel_rfl
    case tt21 => exact tabs _ (by simp)
    case nl => kernel_rfl
    case pl => exact K14.P.pure_law
end
