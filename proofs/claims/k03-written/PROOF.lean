import PyProof.Rows.All
import Wide.All
import OpenK.AllK
import Wide.FinOn
import HandS.ForMost
import HandS.TupAny
import HandS.RaiseMore
import HandS.IsInst
import HandS.Walk
import HandS.Zip
import KE.GoesEnum
import PySem.Challenge.RW_throwless_k03_written
set_option Elab.async false
set_option linter.all false
set_option maxRecDepth 100000
set_option maxHeartbeats 4000000
/-! A small language of the program's kind, and what it reckons: plain data, a store of cells that change. -/
namespace Thr
open PySem

/-! ### values and cells -/
inductive PV where
  | d (x : PyData)
  | ref (n : Nat)
inductive FV where
  | d (x : PyData)
  | own (xs : List PyData)
inductive Cell where
  | lst (xs : List PyData)
  | dct (kvs : List (Str × PyData))
  | ins (c : Nat) (fs : List (Str × FV))
abbrev Store := List Cell
abbrev Slots := List (Option PV)

/-! ### the terms -/
inductive Ty where
  | int | bool | str | tuple | list
  deriving DecidableEq
inductive Prim where
  | add | sub | mul | fdiv | mod | neg
  | eq | ne | lt | le | gt | ge | isin | notin | isNone | notNone
  | tup | lst | boxL | boxD (ks : List Str) | mkD (ks : List Str)
  | len | tupOf | lstOf | intOf | strOf | sumOf | allOf | anyOf | lenSet
  | isinst (t : Ty)
  | ix | slcN | slcL | slcH | slcLH
  | get | join
  | append | extend
  deriving DecidableEq
inductive IterK where
  | seq | range | enum | zip
  deriving DecidableEq
inductive Tgt where
  | one (i : Nat)
  | many (is : List Nat)
  deriving DecidableEq
mutual
inductive E where
  | var (i : Nat)
  | lit (d : PyData)
  | glob (i : Nat)
  | prim (p : Prim) (as : Es)
  | not (a : E)
  | and (as : Es)
  | or (as : Es)
  | chain (p q : Prim) (a b c : E)
  | call (f : Nat) (as : Es)
  | meth (p : Prim) (o : E) (as : Es)
  | comp (t : Tgt) (k : IterK) (as : Es) (cond : Option E) (elt : E)
inductive Es where
  | nil
  | cons (e : E) (es : Es)
end
mutual
inductive S where
  | expr (e : E)
  | set (i : Nat) (e : E)
  | setT (is : List Nat) (e : E)
  | setI (v d k : E)
  | ret (e : E)
  | ite (c : E) (a b : Ss)
  | for (t : Tgt) (k : IterK) (as : Es) (body : Ss)
  | whl (c : E) (body : Ss)
  | brk
inductive Ss where
  | nil
  | cons (s : S) (ss : Ss)
end
structure Fn where
  np : Nat
  ns : Nat
  body : Ss
structure Tab where
  consts : List PyData
  fns : List Fn

/-! ### plain data -/
def scalB : PyData → Bool
  | .none | .bool _ | .int _ | .str _ => true
  | _ => false
mutual
/-- no dict within, at most n deep -/
def fit : Nat → PyData → Bool
  | _, .none | _, .bool _ | _, .int _ | _, .str _ => true
  | 0, .list _ | 0, .tuple _ | _, .dict _ => false
  | n + 1, .list xs => fitAll n xs
  | n + 1, .tuple xs => fitAll n xs
def fitAll : Nat → List PyData → Bool
  | _, [] => true
  | n, x :: xs => fit n x && fitAll n xs
end
def dictD (kvs : List (Str × PyData)) : PyData := .dict (kvs.map fun p => (.str p.1, p.2))
def undict : List (PyData × PyData) → Option (List (Str × PyData))
  | [] => some []
  | (.str k, v) :: r => (undict r).map fun t => (k, v) :: t
  | _ => none
theorem undict_map : ∀ kvs : List (Str × PyData), undict (kvs.map fun p => (.str p.1, p.2)) = some kvs
  | [] => rfl
  | (k, v) :: r => by
    show (undict (r.map fun p => (.str p.1, p.2))).map _ = _
    rw [undict_map r]; rfl
def look (kvs : List (Str × PyData)) (k : Str) : Option PyData := (kvs.find? fun kv => decide (kv.1 = k)).map (·.2)
def put (kvs : List (Str × PyData)) (k : Str) (v : PyData) : List (Str × PyData) :=
  if kvs.any (fun kv => decide (kv.1 = k)) then kvs.map (fun kv => if kv.1 = k then (kv.1, v) else kv) else kvs ++ [(k, v)]
def view (st : Store) : PV → Option PyData
  | .d x => some x
  | .ref n => match st[n]? with
    | some (.lst xs) => some (.list xs)
    | some (.dct kvs) => some (dictD kvs)
    | _ => none
def views (st : Store) : List PV → Option (List PyData)
  | [] => some []
  | v :: r => (view st v).bind fun x => (views st r).map fun t => x :: t
def allD : List PV → Option (List PyData)
  | [] => some []
  | .d x :: r => (allD r).map fun t => x :: t
  | .ref _ :: _ => none
def asD : PV → Option PyData
  | .d x => some x
  | .ref _ => none
def asB : PV → Option Bool
  | .d (.bool b) => some b
  | _ => none
def atIx {α : Type} (xs : List α) (i : Int) : Option α := if 0 ≤ i then xs[i.toNat]? else if -(xs.length : Int) ≤ i then xs[(i + xs.length).toNat]? else none
def eqF (a b : PyData) : Option Bool :=
  if (scalB a && scalB b) || (fit 64 a && fit 64 b) then some (a.eqv b) else none
def mulOk (a b : Int) : Bool := decide (-(2 ^ 64) < a ∧ a < 2 ^ 64) || decide (-(2 ^ 64) < b ∧ b < 2 ^ 64)
def tyIs : Ty → PyData → Bool
  | .int, .int _ | .int, .bool _ => true
  | .bool, .bool _ => true
  | .str, .str _ => true
  | .tuple, .tuple _ => true
  | .list, .list _ => true
  | _, _ => false
def strsOf : List PyData → Option (List Str)
  | [] => some []
  | .str x :: r => (strsOf r).map fun t => x :: t
  | _ => none
def intsOf : List PyData → Option (List Int)
  | [] => some []
  | .int x :: r => (intsOf r).map fun t => x :: t
  | _ => none
def boolsOf : List PyData → Option (List Bool)
  | [] => some []
  | .bool x :: r => (boolsOf r).map fun t => x :: t
  | _ => none
def cut {α : Type} (xs : List α) (lo hi : Option Int) : List α := (xs.drop (HT.sIx xs.length 0 lo)).take (HT.sIx xs.length xs.length hi - HT.sIx xs.length 0 lo)
def slcF (x : PyData) (lo hi : Option Int) : Option PyData := match x with
  | .list xs => some (.list (cut xs lo hi))
  | .tuple xs => some (.tuple (cut xs lo hi))
  | _ => none
/-! what a prim that but reads makes of what it is handed -/
def addD : List PyData → Option PyData
  | [.int a, .int b] => some (.int (a + b))
  | [.str a, .str b] => if a.length + b.length ≤ sizeLine then some (.str (a ++ b)) else none
  | [.list a, .list b] => if a.length + b.length ≤ sizeLine then some (.list (a ++ b)) else none
  | [.tuple a, .tuple b] => if a.length + b.length ≤ sizeLine then some (.tuple (a ++ b)) else none
  | _ => none
def int2 (f : Int → Int → Option PyData) : List PyData → Option PyData
  | [.int a, .int b] => f a b
  | _ => none
def two (f : PyData → PyData → Option PyData) : List PyData → Option PyData
  | [a, b] => f a b
  | _ => none
def one (f : PyData → Option PyData) : List PyData → Option PyData
  | [a] => f a
  | _ => none
def negD : PyData → Option PyData
  | .int a => some (.int (-a))
  | _ => none
def lenD : PyData → Option PyData
  | .list xs => some (.int xs.length)
  | .tuple xs => some (.int xs.length)
  | .str x => some (.int x.length)
  | _ => none
def tupD : PyData → Option PyData
  | .list xs => some (.tuple xs)
  | .tuple xs => some (.tuple xs)
  | _ => none
def lstD : PyData → Option PyData
  | .list xs => some (.list xs)
  | .tuple xs => some (.list xs)
  | _ => none
def intD : PyData → Option PyData
  | .int i => some (.int i)
  | .bool b => some (.int (if b then 1 else 0))
  | _ => none
def strD : PyData → Option PyData
  | .int i => if i.natAbs.log2 < 1920 ∧ (Str.ofString (toString i)).length ≤ sizeLine then some (.str (Str.ofString (toString i))) else none
  | .str x => some (.str x)
  | _ => none
def inD (x y : PyData) : Option Bool := match x, y with
  | .str x, .tuple xs => (strsOf xs).map fun ys => decide (x ∈ ys)
  | .str x, .list xs => (strsOf xs).map fun ys => decide (x ∈ ys)
  | _, _ => none
def ixD (x y : PyData) : Option PyData := match x, y with
  | .list xs, .int i => atIx xs i
  | .tuple xs, .int i => atIx xs i
  | .str x, .int i => (atIx x.cps.toList i).map fun c => .str ⟨#[c]⟩
  | _, _ => none
def noneB : PyData → Bool
  | .none => true
  | _ => false
def sumD : PyData → Option PyData
  | .list xs => (intsOf xs).map fun ns => .int ns.sum
  | _ => none
def allF : PyData → Option PyData
  | .list xs => (boolsOf xs).map fun bs => .bool (bs.all id)
  | _ => none
def anyF : PyData → Option PyData
  | .list xs => (boolsOf xs).map fun bs => .bool (bs.any id)
  | _ => none
def joinD (x y : PyData) : Option PyData := match x, y with
  | .str s, .list xs => (strsOf xs).bind fun ys => if (ys.map (·.length)).sum + ys.length * s.length ≤ 16777216 then some (.str (s.join ys)) else none
  | .str s, .tuple xs => (strsOf xs).bind fun ys => if (ys.map (·.length)).sum + ys.length * s.length ≤ 16777216 then some (.str (s.join ys)) else none
  | _, _ => none
def slc0 : List PyData → Option PyData
  | [x] => slcF x none none
  | _ => none
def slc1 : List PyData → Option PyData
  | [x, .int lo] => slcF x (some lo) none
  | _ => none
def slc2 : List PyData → Option PyData
  | [x, .int hi] => slcF x none (some hi)
  | _ => none
def slc3 : List PyData → Option PyData
  | [x, .int lo, .int hi] => slcF x (some lo) (some hi)
  | _ => none
def primD (p : Prim) (ds : List PyData) : Option PyData := match p with
  | .add => addD ds
  | .sub => int2 (fun a b => some (.int (a - b))) ds
  | .mul => int2 (fun a b => if mulOk a b then some (.int (a * b)) else none) ds
  | .fdiv => int2 (fun a b => if 0 < b ∧ b < 1073741824 then some (.int (a / b)) else none) ds
  | .mod => int2 (fun a b => if 0 < b then some (.int (a % b)) else none) ds
  | .neg => one negD ds
  | .eq => two (fun a b => (eqF a b).map .bool) ds
  | .ne => two (fun a b => (eqF a b).map fun t => .bool (!t)) ds
  | .lt => int2 (fun a b => some (.bool (decide (a < b)))) ds
  | .le => int2 (fun a b => some (.bool (decide (a ≤ b)))) ds
  | .gt => int2 (fun a b => some (.bool (decide (b < a)))) ds
  | .ge => int2 (fun a b => some (.bool (decide (b ≤ a)))) ds
  | .isNone => one (fun a => some (.bool (noneB a))) ds
  | .notNone => one (fun a => some (.bool (!noneB a))) ds
  | .isin => two (fun a b => (inD a b).map .bool) ds
  | .notin => two (fun a b => (inD a b).map fun t => .bool (!t)) ds
  | .len => one lenD ds
  | .tupOf => one tupD ds
  | .lstOf => one lstD ds
  | .intOf => one intD ds
  | .strOf => one strD ds
  | .sumOf => one sumD ds
  | .allOf => one allF ds
  | .anyOf => one anyF ds
  | .ix => two ixD ds
  | .slcN => slc0 ds
  | .slcL => slc1 ds
  | .slcH => slc2 ds
  | .slcLH => slc3 ds
  | .isinst t => one (fun a => some (.bool (tyIs t a))) ds
  | .join => two joinD ds
  | _ => none
def primF (p : Prim) (vs : List PV) (st : Store) : Option (PV × Store) :=
  match p with
  | .tup => (allD vs).bind fun ds => if ds.length ≤ 1000 then some (.d (.tuple ds), st) else none
  | .lst => (allD vs).bind fun ds => if ds.length ≤ 1000 then some (.d (.list ds), st) else none
  | .boxL => (allD vs).bind fun ds => if ds.length ≤ 1000 then some (.ref st.length, st ++ [.lst ds]) else none
  | .append => match vs with
    | [.ref n, .d x] => match st[n]? with
      | some (.lst xs) => if xs.length < sizeLine then some (.d .none, st.set n (.lst (xs ++ [x]))) else none
      | _ => none
    | _ => none
  | _ => (views st vs).bind fun ds => (primD p ds).map fun x => (.d x, st)
/-- the receiver's kind, asked ahead of the arguments -/
def isLst (v : PV) (st : Store) : Bool := match v with
  | .ref n => match st[n]? with
    | some (.lst _) => true
    | _ => false
  | .d _ => false
def isStr (v : PV) : Bool := match v with
  | .d (.str _) => true
  | _ => false
def recvOk (p : Prim) (v : PV) (st : Store) : Bool := match p with
  | .append => isLst v st
  | .join => isStr v
  | _ => false
def itemsOf (k : IterK) (ds : List PyData) : Option (List PyData) :=
  match k, ds with
  | .seq, [.list xs] => some xs
  | .seq, [.tuple xs] => some xs
  | .seq, [.str x] => some (x.cps.toList.map fun c => .str ⟨#[c]⟩)
  | .range, [.int n] => if 0 ≤ n ∧ n ≤ 16777216 then some ((List.range n.toNat).map fun (i : Nat) => .int i) else none
  | .enum, [.list xs] => some ((List.range xs.length).zip xs |>.map fun p => .tuple [.int p.1, p.2])
  | .enum, [.tuple xs] => some ((List.range xs.length).zip xs |>.map fun p => .tuple [.int p.1, p.2])
  | .zip, [.tuple xs, .tuple ys] => some ((xs.zip ys).map fun p => .tuple [p.1, p.2])
  | .zip, [.list xs, .list ys] => some ((xs.zip ys).map fun p => .tuple [p.1, p.2])
  | _, _ => none
def setMany : List Nat → List PyData → Slots → Option Slots
  | [], [], ρ => some ρ
  | i :: is, x :: xs, ρ => setMany is xs (ρ.set i (some (.d x)))
  | _, _, _ => none
def bindT (t : Tgt) (x : PyData) (ρ : Slots) : Option Slots :=
  match t, x with
  | .one i, x => some (ρ.set i (some (.d x)))
  | .many is, .tuple xs => setMany is xs ρ
  | .many _, _ => none

/-! ### the reckoning -/
abbrev Orc := Nat → List PV → Store → Option (PV × Store)
def compL (step : PyData → Store → Option (Option PyData × Store)) : List PyData → Store → Option (List PyData × Store)
  | [], s => some ([], s)
  | x :: xs, s => (step x s).bind fun r => (compL step xs r.2).map fun t => (match r.1 with | some y => y :: t.1 | none => t.1, t.2)
section
variable (T : Tab) (O : Orc)
mutual
def evE : E → Slots → Store → Option (PV × Store)
  | .var i, ρ, st => (ρ[i]?.join).map fun v => (v, st)
  | .lit d, _, st => some (.d d, st)
  | .glob i, _, st => (T.consts[i]?).map fun d => (.d d, st)
  | .prim p as, ρ, st => (evEs as ρ st).bind fun r => primF p r.1 r.2
  | .not a, ρ, st => (evE a ρ st).bind fun r => (asB r.1).map fun b => (.d (.bool !b), r.2)
  | .and as, ρ, st => evAnd as ρ st
  | .or as, ρ, st => evOr as ρ st
  | .chain p q a b c, ρ, st => (evE a ρ st).bind fun r1 => (evE b ρ r1.2).bind fun r2 => (primF p [r1.1, r2.1] r2.2).bind fun r3 =>
      (asB r3.1).bind fun t => if t then (evE c ρ r3.2).bind fun r4 => primF q [r2.1, r4.1] r4.2 else some (.d (.bool false), r3.2)
  | .call f as, ρ, st => (evEs as ρ st).bind fun r => O f r.1 r.2
  | .meth p o as, ρ, st => (evE o ρ st).bind fun r1 => if recvOk p r1.1 r1.2 then (evEs as ρ r1.2).bind fun r2 => primF p (r1.1 :: r2.1) r2.2 else none
  | .comp t k as cond elt, ρ, st => (evEs as ρ st).bind fun r => (allD r.1).bind fun ds => (itemsOf k ds).bind fun xs =>
      (compL (fun x s => (bindT t x ρ).bind fun ρ' => match cond with
        | some c => (evE c ρ' s).bind fun r1 => (asB r1.1).bind fun b => if b then (evE elt ρ' r1.2).bind fun r2 => (asD r2.1).map fun y => (some y, r2.2) else some (none, r1.2)
        | none => (evE elt ρ' s).bind fun r2 => (asD r2.1).map fun y => (some y, r2.2)) xs r.2).map fun q => (.d (.list q.1), q.2)
def evEs : Es → Slots → Store → Option (List PV × Store)
  | .nil, _, st => some ([], st)
  | .cons e es, ρ, st => (evE e ρ st).bind fun r => (evEs es ρ r.2).map fun q => (r.1 :: q.1, q.2)
def evAnd : Es → Slots → Store → Option (PV × Store)
  | .nil, _, _ => none
  | .cons e .nil, ρ, st => (evE e ρ st).bind fun r => (asB r.1).map fun b => (.d (.bool b), r.2)
  | .cons e es, ρ, st => (evE e ρ st).bind fun r => (asB r.1).bind fun b => if b then evAnd es ρ r.2 else some (.d (.bool false), r.2)
def evOr : Es → Slots → Store → Option (PV × Store)
  | .nil, _, _ => none
  | .cons e .nil, ρ, st => (evE e ρ st).bind fun r => (asB r.1).map fun b => (.d (.bool b), r.2)
  | .cons e es, ρ, st => (evE e ρ st).bind fun r => (asB r.1).bind fun b => if b then some (.d (.bool true), r.2) else evOr es ρ r.2
end
inductive Fl where
  | next | brk | ret (v : PV)
def forL (body : Slots → Store → Option (Fl × Slots × Store)) (t : Tgt) : List PyData → Slots → Store → Option (Fl × Slots × Store)
  | [], ρ, s => some (.next, ρ, s)
  | x :: xs, ρ, s => (bindT t x ρ).bind fun ρ' => (body ρ' s).bind fun r => match r.1 with
    | .next => forL body t xs r.2.1 r.2.2
    | .brk => some (.next, r.2.1, r.2.2)
    | .ret v => some (.ret v, r.2.1, r.2.2)
def whlL (cond : Slots → Store → Option (PV × Store)) (body : Slots → Store → Option (Fl × Slots × Store)) : Nat → Slots → Store → Option (Fl × Slots × Store)
  | 0, _, _ => none
  | n + 1, ρ, s => (cond ρ s).bind fun c => (asB c.1).bind fun b => if b then (body ρ c.2).bind fun r => match r.1 with
      | .next => whlL cond body n r.2.1 r.2.2
      | .brk => some (.next, r.2.1, r.2.2)
      | .ret v => some (.ret v, r.2.1, r.2.2)
    else some (.next, ρ, c.2)
def setManyV (is : List Nat) (v : PV) (ρ : Slots) : Option Slots := match v with
  | .d (.tuple xs) => setMany is xs ρ
  | _ => none
def setItemF (v d k : PV) (st : Store) : Option Store := match v, d, k with
  | .d x, .ref n, .d (.str s) => match st[n]? with
    | some (.dct kvs) => if kvs.length < sizeLine then some (st.set n (.dct (put kvs s x))) else none
    | _ => none
  | _, _, _ => none
mutual
def exS : S → Slots → Store → Option (Fl × Slots × Store)
  | .expr e, ρ, st => (evE T O e ρ st).map fun r => (.next, ρ, r.2)
  | .set i e, ρ, st => (evE T O e ρ st).map fun r => (.next, ρ.set i (some r.1), r.2)
  | .setT is e, ρ, st => (evE T O e ρ st).bind fun r => (setManyV is r.1 ρ).map fun ρ' => (.next, ρ', r.2)
  | .setI v d k, ρ, st => (evE T O v ρ st).bind fun r1 => (evE T O d ρ r1.2).bind fun r2 => (evE T O k ρ r2.2).bind fun r3 => (setItemF r1.1 r2.1 r3.1 r3.2).map fun s => (.next, ρ, s)
  | .ret e, ρ, st => (evE T O e ρ st).map fun r => (.ret r.1, ρ, r.2)
  | .ite c a b, ρ, st => (evE T O c ρ st).bind fun r => (asB r.1).bind fun t => if t then exSs a ρ r.2 else exSs b ρ r.2
  | .for t k as body, ρ, st => (evEs T O as ρ st).bind fun r => (allD r.1).bind fun ds => (itemsOf k ds).bind fun xs => forL (fun ρ s => exSs body ρ s) t xs ρ r.2
  | .whl c body, ρ, st => whlL (fun ρ s => evE T O c ρ s) (fun ρ s => exSs body ρ s) 100000 ρ st
  | .brk, ρ, st => some (.brk, ρ, st)
def exSs : Ss → Slots → Store → Option (Fl × Slots × Store)
  | .nil, ρ, st => some (.next, ρ, st)
  | .cons s ss, ρ, st => (exS s ρ st).bind fun r => match r.1 with
    | .next => exSs ss r.2.1 r.2.2
    | .brk => some r
    | .ret _ => some r
end
/-- a frame's end: its cells go; a list or dict of its own that is told is data from then on -/
def fin (base : Nat) (v : PV) (st : Store) : Option (PV × Store) := match v with
  | .d x => some (.d x, st.take base)
  | .ref k => if k < base then none else match st[k]? with
    | some (.lst xs) => some (.d (.list xs), st.take base)
    | some (.dct kvs) => some (.d (dictD kvs), st.take base)
    | _ => none
def startS (ns : Nat) (vs : List PV) : Slots := vs.map some ++ List.replicate (ns - vs.length) none
end
def callF (T : Tab) : Nat → Orc
  | 0 => fun _ _ _ => none
  | n + 1 => fun f vs st => (T.fns[f]?).bind fun fn => if vs.length = fn.np then (exSs T (callF T n) fn.body (startS fn.ns vs) st).bind fun r => match r.1 with
      | .ret v => fin st.length v r.2.2
      | .next => fin st.length (.d .none) r.2.2
      | .brk => none
    else none
end Thr
/-! How plain data and cells lie in the heap. -/
namespace Thr
open PySem PySem.Spec PyProof.Rows L2

/-- a tuple of the module -/
def KTup (K : PySem.W.Frag) (a : Addr) (xs : List V) : Prop :=
  ∃ (o : Obj) (its : Array Value) (n : Nat), K.lookup a = some o ∧ o.cls = .type "tuple" ∧ o.data = .seq its n ∧ its.size ≤ sizeLine ∧ Vals xs its.toList
def TupAt (K : PySem.W.Frag) (H : Hp) (F : List Addr) (a : Addr) (xs : List V) : Prop := (Rd H a (.tup xs) ∧ a ∉ F) ∨ KTup K a xs
theorem TupAt.sq {K : PySem.W.Frag} {H : Hp} {F : List Addr} {a : Addr} {xs : List V} (h : TupAt K H F a xs) : SqT K H a xs := by
  rcases h with ⟨h, _⟩ | h
  · exact .inl h
  · exact .inr h
/-- a list of the module -/
def KLst (K : PySem.W.Frag) (a : Addr) (xs : List V) : Prop :=
  ∃ (o : Obj) (its : Array Value) (n : Nat), K.lookup a = some o ∧ o.cls = .type "list" ∧ o.dict = none ∧ o.data = .seq its n ∧ its.size ≤ sizeLine ∧ Vals xs its.toList
def LstAt (K : PySem.W.Frag) (H : Hp) (F : List Addr) (a : Addr) (xs : List V) : Prop := (Rd H a (.lst xs) ∧ a ∉ F) ∨ KLst K a xs
theorem LstAt.sq {K : PySem.W.Frag} {H : Hp} {F : List Addr} {a : Addr} {xs : List V} (h : LstAt K H F a xs) : SqL K H a xs := by
  rcases h with ⟨h, _⟩ | h
  · exact .inl h
  · exact .inr h
mutual
inductive RepD (K : PySem.W.Frag) (H : Hp) (F : List Addr) : V → PyData → Prop
  | non : RepD K H F .non .none
  | bl (b : Bool) : RepD K H F (.bl b) (.bool b)
  | int (i : Int) : RepD K H F (.int i) (.int i)
  | str (x : Str) : x.length ≤ sizeLine → PyData.strOk x = true → RepD K H F (.str x) (.str x)
  | lst {a : Addr} {xs : List V} {ds : List PyData} : LstAt K H F a xs → ds.length ≤ sizeLine → RepDs K H F xs ds → RepD K H F (.ref a) (.list ds)
  | tup {a : Addr} {xs : List V} {ds : List PyData} : TupAt K H F a xs → ds.length ≤ sizeLine → RepDs K H F xs ds → RepD K H F (.ref a) (.tuple ds)
  | dct {a : Addr} {ks : List (Key × V)} {kvs : List (PyData × PyData)} : H a = some (.dK ks) → a ∉ F → ks.length ≤ sizeLine → RepKs K H F ks kvs → RepD K H F (.ref a) (.dict kvs)
inductive RepDs (K : PySem.W.Frag) (H : Hp) (F : List Addr) : List V → List PyData → Prop
  | nil : RepDs K H F [] []
  | cons {v : V} {vs : List V} {d : PyData} {ds : List PyData} : RepD K H F v d → RepDs K H F vs ds → RepDs K H F (v :: vs) (d :: ds)
inductive RepKs (K : PySem.W.Frag) (H : Hp) (F : List Addr) : List (Key × V) → List (PyData × PyData) → Prop
  | nil : RepKs K H F [] []
  | cons {s : Str} {v : V} {r : List (Key × V)} {d : PyData} {rs : List (PyData × PyData)} : s.length ≤ sizeLine → PyData.strOk s = true → RepD K H F v d → RepKs K H F r rs → RepKs K H F ((.inr s, v) :: r) ((.str s, d) :: rs)
end
/-- all that is not at F stays -/
def Ext (H : Hp) (F : List Addr) (H' : Hp) (F' : List Addr) : Prop := ∀ a o, H a = some o → a ∉ F → H' a = some o ∧ a ∉ F'
theorem Ext.refl (H : Hp) (F : List Addr) : Ext H F H F := fun _ _ h n => ⟨h, n⟩
theorem Ext.trans {H H1 H2 : Hp} {F F1 F2 : List Addr} (a : Ext H F H1 F1) (b : Ext H1 F1 H2 F2) : Ext H F H2 F2 := fun c o h n =>
  let ⟨h1, n1⟩ := a c o h n
  b c o h1 n1
section
variable {K : PySem.W.Frag} {H H' : Hp} {F F' : List Addr}
theorem Rd.ext (e : Ext H F H' F') {a : Addr} {u : HO} (h : Rd H a u) (n : a ∉ F) : Rd H' a u ∧ a ∉ F' := by
  rcases h with h | ⟨o, h⟩
  · exact ⟨.inl (e _ _ h n).1, (e _ _ h n).2⟩
  · exact ⟨.inr ⟨o, (e _ _ h n).1⟩, (e _ _ h n).2⟩
theorem TupAt.mono (e : Ext H F H' F') {a : Addr} {xs : List V} (h : TupAt K H F a xs) : TupAt K H' F' a xs := by
  rcases h with ⟨h, n⟩ | h
  · exact .inl (Rd.ext e h n)
  · exact .inr h
theorem LstAt.mono (e : Ext H F H' F') {a : Addr} {xs : List V} (h : LstAt K H F a xs) : LstAt K H' F' a xs := by
  rcases h with ⟨h, n⟩ | h
  · exact .inl (Rd.ext e h n)
  · exact .inr h
mutual
theorem RepD.mono (e : Ext H F H' F') {v : V} {d : PyData} : RepD K H F v d → RepD K H' F' v d
  | .non => .non
  | .bl b => .bl b
  | .int i => .int i
  | .str x h k => .str x h k
  | .lst h l r => .lst (h.mono e) l (RepDs.mono e r)
  | .tup h l r => .tup (h.mono e) l (RepDs.mono e r)
  | .dct h n l r => .dct (e _ _ h n).1 (e _ _ h n).2 l (RepKs.mono e r)
theorem RepDs.mono (e : Ext H F H' F') {vs : List V} {ds : List PyData} : RepDs K H F vs ds → RepDs K H' F' vs ds
  | .nil => .nil
  | .cons h t => .cons (RepD.mono e h) (RepDs.mono e t)
theorem RepKs.mono (e : Ext H F H' F') {ks : List (Key × V)} {kvs : List (PyData × PyData)} : RepKs K H F ks kvs → RepKs K H' F' ks kvs
  | .nil => .nil
  | .cons h1 h2 h t => .cons h1 h2 (RepD.mono e h) (RepKs.mono e t)
end
theorem RepDs.length {vs : List V} {ds : List PyData} : RepDs K H F vs ds → vs.length = ds.length
  | .nil => rfl
  | .cons _ t => congrArg (· + 1) (RepDs.length t)
theorem RepKs.length {vs : List (Key × V)} {ds : List (PyData × PyData)} : RepKs K H F vs ds → vs.length = ds.length
  | .nil => rfl
  | .cons _ _ _ t => congrArg (· + 1) (RepKs.length t)
theorem RepDs.get : ∀ {vs : List V} {ds : List PyData} {i : Nat} {d : PyData}, RepDs K H F vs ds → ds[i]? = some d → ∃ v, vs[i]? = some v ∧ RepD K H F v d
  | _, _, _, _, .nil, e => by simp at e
  | _, _, 0, _, .cons r _, e => by simp at e; subst e; exact ⟨_, rfl, r⟩
  | _, _, i + 1, d, .cons _ t, e => by
    obtain ⟨v, h1, h2⟩ := RepDs.get (i := i) (d := d) t (by simpa using e)
    exact ⟨v, by simpa using h1, h2⟩
theorem RepDs.get' : ∀ {vs : List V} {ds : List PyData} {i : Nat} {v : V}, RepDs K H F vs ds → vs[i]? = some v → ∃ d, ds[i]? = some d ∧ RepD K H F v d
  | _, _, _, _, .nil, e => by simp at e
  | _, _, 0, _, .cons r _, e => by simp at e; subst e; exact ⟨_, rfl, r⟩
  | _, _, i + 1, d, .cons _ t, e => by
    obtain ⟨v, h1, h2⟩ := RepDs.get' (i := i) (v := d) t (by simpa using e)
    exact ⟨v, by simpa using h1, h2⟩
theorem RepDs.append : ∀ {vs ws : List V} {ds es : List PyData}, RepDs K H F vs ds → RepDs K H F ws es → RepDs K H F (vs ++ ws) (ds ++ es)
  | _, _, _, _, .nil, s => s
  | _, _, _, _, .cons r t, s => .cons r (RepDs.append t s)
theorem RepDs.take : ∀ {vs : List V} {ds : List PyData} (n : Nat), RepDs K H F vs ds → RepDs K H F (vs.take n) (ds.take n)
  | _, _, 0, _ => .nil
  | _, _, _ + 1, .nil => .nil
  | _, _, n + 1, .cons r t => .cons r (RepDs.take n t)
theorem RepDs.drop : ∀ {vs : List V} {ds : List PyData} (n : Nat), RepDs K H F vs ds → RepDs K H F (vs.drop n) (ds.drop n)
  | _, _, 0, r => r
  | _, _, _ + 1, .nil => .nil
  | _, _, n + 1, .cons _ t => RepDs.drop n t
theorem RepDs.nil_iff {vs : List V} {ds : List PyData} (r : RepDs K H F vs ds) : vs = [] ↔ ds = [] := by
  cases r <;> simp
theorem cut_eq {α β : Type} (xs : List α) (ys : List β) (h : xs.length = ys.length) (lo hi : Option Int) : (HT.sIx xs.length 0 lo) = HT.sIx ys.length 0 lo ∧ HT.sIx xs.length xs.length hi = HT.sIx ys.length ys.length hi := by
  rw [h]; exact ⟨rfl, rfl⟩
theorem RepDs.cut {vs : List V} {ds : List PyData} (r : RepDs K H F vs ds) (lo hi : Option Int) : RepDs K H F (cutV vs lo hi) (Thr.cut ds lo hi) := by
  unfold cutV Thr.cut
  rw [r.length]
  exact (r.drop _).take _
theorem cut_length {α : Type} (xs : List α) (lo hi : Option Int) : (cut xs lo hi).length ≤ xs.length := by
  unfold cut
  rw [List.length_take, List.length_drop]
  omega
/-! as == sees it -/
mutual
theorem RepD.dp {v : V} {d : PyData} {n : Nat} : RepD K H F v d → fit n d = true → Dp K H v d ∧ d.canLay0 = true ∧ d.depth ≤ n
  | .non, _ => ⟨.non, rfl, Nat.zero_le _⟩
  | .bl b, _ => ⟨.bl b, rfl, Nat.zero_le _⟩
  | .int i, _ => ⟨.int i, rfl, Nat.zero_le _⟩
  | .str x _ k, _ => ⟨.str x, k, Nat.zero_le _⟩
  | .lst h _ r, f => match n, f with
    | 0, f => by simp [fit] at f
    | n + 1, f => by
      obtain ⟨h1, h2, h3⟩ := RepDs.dp (n := n) r (by simpa [fit] using f)
      exact ⟨.lst h.sq h1, by simpa [PyData.canLay0] using h2, by simp only [PyData.depth]; omega⟩
  | .tup h _ r, f => match n, f with
    | 0, f => by simp [fit] at f
    | n + 1, f => by
      obtain ⟨h1, h2, h3⟩ := RepDs.dp (n := n) r (by simpa [fit] using f)
      exact ⟨.tup h.sq h1, by simpa [PyData.canLay0] using h2, by simp only [PyData.depth]; omega⟩
  | .dct _ _ _ _, f => by cases n <;> simp [fit] at f
theorem RepDs.dp {vs : List V} {ds : List PyData} {n : Nat} : RepDs K H F vs ds → fitAll n ds = true → DpAll K H vs ds ∧ PyData.canLayAll0 ds = true ∧ PyData.depthAll ds ≤ n
  | .nil, _ => ⟨.nil, rfl, Nat.zero_le _⟩
  | @RepDs.cons _ _ _ _ _ d ds h t, f => by
    have f' : fit n d = true ∧ fitAll n ds = true := by simpa [fitAll] using f
    obtain ⟨a1, a2, a3⟩ := RepD.dp h f'.1
    obtain ⟨b1, b2, b3⟩ := RepDs.dp t f'.2
    refine ⟨.cons a1 b1, by simp [PyData.canLayAll0, a2, b2], ?_⟩
    simp only [PyData.depthAll]
    omega
end
end

/-! ### as a view: a list, a dict of a cell too -/
def RepW (K : PySem.W.Frag) (H : Hp) (F : List Addr) (v : V) : PyData → Prop
  | .list ds => ∃ a xs, v = .ref a ∧ SqL K H a xs ∧ ds.length ≤ sizeLine ∧ RepDs K H F xs ds
  | .dict kvs => ∃ a ks, v = .ref a ∧ H a = some (.dK ks) ∧ ks.length ≤ sizeLine ∧ RepKs K H F ks kvs
  | d => RepD K H F v d
def RepWs (K : PySem.W.Frag) (H : Hp) (F : List Addr) : List V → List PyData → Prop := Paired (RepW K H F)
section
variable {K : PySem.W.Frag} {H H' : Hp} {F F' : List Addr}
theorem RepD.w {v : V} {d : PyData} (h : RepD K H F v d) : RepW K H F v d := by
  cases h with
  | lst a c r => exact ⟨_, _, rfl, a.sq, c, r⟩
  | dct a b c r => exact ⟨_, _, rfl, a, c, r⟩
  | non => exact .non
  | bl b => exact .bl b
  | int i => exact .int i
  | str x h k => exact .str x h k
  | tup h l r => exact .tup h l r
theorem RepW.dp {v : V} {d : PyData} {n : Nat} (h : RepW K H F v d) (f : fit n d = true) : Dp K H v d ∧ d.canLay0 = true ∧ d.depth ≤ n := by
  cases d with
  | list ds =>
    obtain ⟨a, xs, rfl, hr, hl, r⟩ := h
    cases n with
    | zero => simp [fit] at f
    | succ n =>
      obtain ⟨h1, h2, h3⟩ := RepDs.dp (n := n) r (by simpa [fit] using f)
      exact ⟨.lst hr h1, by simpa [PyData.canLay0] using h2, by simp only [PyData.depth]; omega⟩
  | dict kvs => cases n <;> simp [fit] at f
  | none => exact RepD.dp h f
  | bool b => exact RepD.dp h f
  | int i => exact RepD.dp h f
  | str x => exact RepD.dp h f
  | tuple ds => exact RepD.dp h f
theorem RepW.shaped {v : V} {d : PyData} (h : RepW K H F v d) (f : fit 64 d = true) : Dp K H v d ∧ SeqAt.shaped d = true := by
  obtain ⟨h1, h2, h3⟩ := h.dp f
  refine ⟨h1, ?_⟩
  show (d.canLay0 && decide (d.depth ≤ 64)) = true
  rw [h2, Bool.true_and]
  exact decide_eq_true h3
/-! ### new objects -/
/-- what was tracked stays -/
def Grow (H H' : Hp) : Prop := ∀ a o, H a = some o → H' a = some o
theorem Grow.refl (H : Hp) : Grow H H := fun _ _ h => h
theorem Grow.trans {H H1 H2 : Hp} (a : Grow H H1) (b : Grow H1 H2) : Grow H H2 := fun c o h => b c o (a c o h)
theorem Grow.ext (g : Grow H H') (F : List Addr) : Ext H F H' F := fun a o h n => ⟨g a o h, n⟩
theorem Grow.upd {p : Addr} (h : H p = none) (o : HO) : Grow H (upd H p o) := fun b u q => by rw [upd_ne (ne_of_none q h)]; exact q
def Alloc (H : Hp) (F : List Addr) : Prop := ∀ a ∈ F, H a ≠ none
theorem Alloc.out (al : Alloc H F) {p : Addr} (h : H p = none) : p ∉ F := fun m => al p m h
theorem new_tup {p : Addr} {xs : List V} {ds : List PyData} (al : Alloc H F) (h : H p = none) (l : ds.length ≤ sizeLine) (r : RepDs K H F xs ds) : RepD K (upd H p (.tup xs)) F (.ref p) (.tuple ds) :=
  .tup (.inl ⟨.inl upd_same, al.out h⟩) l (r.mono ((Grow.upd h _).ext F))
theorem new_lst {p : Addr} {xs : List V} {ds : List PyData} (al : Alloc H F) (h : H p = none) (l : ds.length ≤ sizeLine) (r : RepDs K H F xs ds) : RepD K (upd H p (.lst xs)) F (.ref p) (.list ds) :=
  .lst (.inl ⟨.inl upd_same, al.out h⟩) l (r.mono ((Grow.upd h _).ext F))
end
end Thr
/-! The prims that but read: the machine does the same. -/
namespace Thr
open PySem PySem.Spec PyProof.Rows L2

def RdR (K : PySem.W.Frag) (p : Prim) : List V → Hp → VK → Prop := fun xs H Q => ∃ F ds d, Alloc H F ∧ RepWs K H F xs ds ∧ primD p ds = some d ∧ ∀ v H', Grow H H' → RepD K H' F v d → Q v H'

theorem ok_add {a b : Str} (ha : PyData.strOk a = true) (hb : PyData.strOk b = true) : PyData.strOk (a ++ b) = true := by
  have e : (a ++ b).cps = a.cps ++ b.cps := rfl
  unfold PyData.strOk at *
  rw [e, Array.all_append, ha, hb]; rfl
theorem len_add (a b : Str) : (a ++ b).length = a.length + b.length := by
  show (a.cps ++ b.cps).size = _
  rw [Array.size_append]; rfl
theorem ok_sign {x : Str} (h : PyData.strOk x = true) {c : Nat} (hc : c ∈ x.cps.toList) : PyData.strOk ⟨#[c]⟩ = true := by
  unfold PyData.strOk at *
  rw [Array.all_eq_true'] at h
  have := h c (by simpa using hc)
  simpa using this
theorem ok_num (i : Int) : PyData.strOk (Str.ofString (toString i)) = true := by
  unfold PyData.strOk
  rw [Array.all_eq_true']
  intro c hc
  have hc' : c ∈ (Str.ofString (toString i)).cps.toList := by simpa using hc
  by_cases h : c < 0x110000
  · simpa using h
  · exact absurd hc' (int_text_free' c ⟨by omega, .inr (by omega)⟩ i)
theorem ok_join {s : Str} (hs : PyData.strOk s = true) : ∀ {ys : List Str}, (∀ y ∈ ys, PyData.strOk y = true) → PyData.strOk (s.join ys) = true
  | [], _ => by show PyData.strOk Str.empty = true; simp [PyData.strOk, Str.empty]
  | [x], h => h x (by simp)
  | x :: y :: r, h => by
    show PyData.strOk (x ++ s ++ s.join (y :: r)) = true
    exact ok_add (ok_add (h x (by simp)) hs) (ok_join hs fun z hz => h z (by simp [hz]))
theorem len_join (s : Str) : ∀ ys : List Str, (s.join ys).length ≤ (ys.map (·.length)).sum + ys.length * s.length
  | [] => Nat.zero_le _
  | [x] => by simp [Str.join]
  | x :: y :: r => by
    have ih := len_join s (y :: r)
    show (x ++ s ++ s.join (y :: r)).length ≤ _
    rw [len_add, len_add]
    simp only [List.map_cons, List.sum_cons, List.length_cons] at *
    have e : (r.length + 1 + 1) * s.length = (r.length + 1) * s.length + s.length := Nat.succ_mul _ _
    omega
theorem size_line : sizeLine = 16777216 := rfl

section
variable {K : PySem.W.Frag} {H : Hp} {F : List Addr}
theorem reps_strs : ∀ {vs : List V} {ds : List PyData} {ys : List Str}, RepDs K H F vs ds → strsOf ds = some ys → vs = ys.map V.str ∧ ∀ y ∈ ys, y.length ≤ sizeLine ∧ PyData.strOk y = true
  | _, _, _, .nil, e => by cases e; exact ⟨rfl, fun _ h => nomatch h⟩
  | _, _, ys, @RepDs.cons _ _ _ _ _ d ds h t, e => by
    cases h with
    | str x h k =>
      simp only [strsOf, Option.map_eq_some_iff] at e
      obtain ⟨ts, e, rfl⟩ := e
      obtain ⟨rfl, h2⟩ := reps_strs t e
      refine ⟨rfl, fun y hy => ?_⟩
      rcases List.mem_cons.mp hy with rfl | hy
      · exact ⟨h, k⟩
      · exact h2 y hy
    | _ => simp [strsOf] at e
theorem reps_ints : ∀ {vs : List V} {ds : List PyData} {ys : List Int}, RepDs K H F vs ds → intsOf ds = some ys → vs = ys.map V.int
  | _, _, _, .nil, e => by cases e; rfl
  | _, _, ys, @RepDs.cons _ _ _ _ _ d ds h t, e => by
    cases h with
    | int x =>
      simp only [intsOf, Option.map_eq_some_iff] at e
      obtain ⟨ts, e, rfl⟩ := e
      rw [reps_ints t e]; rfl
    | _ => simp [intsOf] at e
theorem reps_bools : ∀ {vs : List V} {ds : List PyData} {ys : List Bool}, RepDs K H F vs ds → boolsOf ds = some ys → vs = ys.map V.bl
  | _, _, _, .nil, e => by cases e; rfl
  | _, _, ys, @RepDs.cons _ _ _ _ _ d ds h t, e => by
    cases h with
    | bl x =>
      simp only [boolsOf, Option.map_eq_some_iff] at e
      obtain ⟨ts, e, rfl⟩ := e
      rw [reps_bools t e]; rfl
    | _ => simp [boolsOf] at e
theorem repW_int {v : V} {i : Int} (h : RepW K H F v (.int i)) : v = .int i := by cases (show RepD K H F v (.int i) from h); rfl
theorem repW_bool {v : V} {i : Bool} (h : RepW K H F v (.bool i)) : v = .bl i := by cases (show RepD K H F v (.bool i) from h); rfl
theorem repW_none {v : V} (h : RepW K H F v .none) : v = .non := by cases (show RepD K H F v .none from h); rfl
theorem repW_str {v : V} {x : Str} (h : RepW K H F v (.str x)) : v = .str x ∧ x.length ≤ sizeLine ∧ PyData.strOk x = true := by
  cases (show RepD K H F v (.str x) from h) with
  | str _ a b => exact ⟨rfl, a, b⟩
theorem repW_tup {v : V} {ds : List PyData} (h : RepW K H F v (.tuple ds)) : ∃ a xs, v = .ref a ∧ TupAt K H F a xs ∧ ds.length ≤ sizeLine ∧ RepDs K H F xs ds := by
  cases (show RepD K H F v (.tuple ds) from h) with
  | tup a b c => exact ⟨_, _, rfl, a, b, c⟩
theorem vals1' {xs : List V} {d : PyData} (r : RepWs K H F xs [d]) : ∃ x, xs = [x] ∧ RepW K H F x d := by
  cases r with
  | cons a t => cases t; exact ⟨_, rfl, a⟩
theorem vals2' {x y : V} {ds : List PyData} (r : RepWs K H F [x, y] ds) : ∃ a b, ds = [a, b] ∧ RepW K H F x a ∧ RepW K H F y b := by
  cases r with
  | cons a t => cases t with
    | cons b t => cases t; exact ⟨_, _, rfl, a, b⟩
theorem atIx_atI {α : Type} (xs : List α) (i : Int) : atIx xs i = atI xs i := by
  unfold atIx atI ixN
  by_cases h : 0 ≤ i
  · rw [if_pos h, if_pos h]
    by_cases h2 : i < xs.length
    · rw [if_pos h2]; rfl
    · rw [if_neg h2]; exact List.getElem?_eq_none (by omega)
  · rw [if_neg h, if_neg h]
    by_cases h2 : -(xs.length : Int) ≤ i
    · rw [if_pos h2, if_pos h2]; rfl
    · rw [if_neg h2, if_neg h2]; rfl
theorem RepDs.atI {vs : List V} {ds : List PyData} {i : Int} {d : PyData} (r : RepDs K H F vs ds) (h : atIx ds i = some d) : ∃ v, L2.atI vs i = some v ∧ RepD K H F v d := by
  rw [← atIx_atI]
  unfold atIx at h ⊢
  rw [r.length]
  by_cases c : 0 ≤ i
  · rw [if_pos c] at h ⊢; exact r.get h
  · rw [if_neg c] at h ⊢
    by_cases c2 : -(ds.length : Int) ≤ i
    · rw [if_pos c2] at h ⊢; exact r.get h
    · rw [if_neg c2] at h; cases h
theorem repD_none {v : V} {d : PyData} (h : RepW K H F v d) : decide (v = .non) = noneB d := by
  cases d with
  | none => rw [repW_none h]; rfl
  | bool b => rw [repW_bool h]; rfl
  | int i => rw [repW_int h]; rfl
  | str x => rw [(repW_str h).1]; rfl
  | tuple ds => obtain ⟨a, xs, rfl, _⟩ := repW_tup h; rfl
  | list ds => obtain ⟨a, xs, rfl, _⟩ := h; rfl
  | dict ds => obtain ⟨a, xs, rfl, _⟩ := h; rfl
theorem scal_eqv {x y : V} {a b : PyData} (hx : RepW K H F x a) (hy : RepW K H F y b) (h : (scalB a && scalB b) = true) : flatV x = true ∧ flatV y = true ∧ eqV x y = a.eqv b := by
  rw [Bool.and_eq_true] at h
  cases a <;> first | (exact absurd h.1 Bool.false_ne_true) | skip
  all_goals (cases b <;> first | (exact absurd h.2 Bool.false_ne_true) | skip)
  all_goals
    first
      | rw [repW_none hx]
      | rw [repW_bool hx]
      | rw [repW_int hx]
      | rw [(repW_str hx).1]
  all_goals
    first
      | rw [repW_none hy]
      | rw [repW_bool hy]
      | rw [repW_int hy]
      | rw [(repW_str hy).1]
  all_goals (refine ⟨rfl, rfl, ?_⟩; simp only [eqV, PyData.eqv])
end
section
variable {X : Cx}
/-- list + list, of any lists that are read -/
def rCatL (K : PySem.W.Frag) : R2 := fun x y H Q => ∃ l b xs zs, x = .ref l ∧ y = .ref b ∧ SqL K H l xs ∧ SqL K H b zs ∧ xs.length + zs.length ≤ sizeLine ∧ ∀ p, H p = none → Q (.ref p) (upd H p (.lst (xs ++ zs)))
theorem op_catL : OpR X (binaryOp .Add) (rCatL X.K) := by
  intro pins s σ H x y v u Q I rx ry h
  obtain ⟨l, b, xs, zs, rfl, rfl, hH, hB, hz, q⟩ := h
  cases rx
  cases ry
  obtain ⟨its, r, ⟨⟨cls, dd, data, sl⟩, n, e, hc, hd, hdt⟩, hz1⟩ := I.list hH
  obtain ⟨its2, r2, ⟨⟨cls2, dd2, data2, sl2⟩, n2, e2, hc2, hd2, hdt2⟩, hz2⟩ := I.list hB
  simp only at hc hd hdt hc2 hd2 hdt2
  subst hc hdt hc2 hdt2
  have hl := r.length
  have hl2 := r2.length
  have ea : its.toArray ++ its2.toArray = (its ++ its2).toArray := by simp
  refine concat_meets ⟨_, e, rfl⟩ ⟨_, e2, rfl⟩ noFill_list_add seq_list_add PySem.F.slot_list_add PySem.F.entry_list_add (PySem.F.args_list_add_2 _ _) (list_addW l b its.toArray its2.toArray n n2 dd dd2 sl sl2 (by simp only [List.size_toArray]; omega)) ⟨e, e2, ?_⟩
  rw [ea]
  exact ⟨.ref _, _, I.lnew (t' := s.toks) (r.append r2) (by rw [List.length_append]; omega), rfl, q _ I.fresh⟩
theorem prim_add : OpR X (binaryOp .Add) (fun x y => RdR X.K .add [x, y]) := by
  intro pins s σ H x y v u Q I rx ry h
  obtain ⟨F, ds, d, al, rw_, hp, k⟩ := h
  obtain ⟨a, b, rfl, ha, hb⟩ := vals2' rw_
  change addD [a, b] = some d at hp
  cases a <;> cases b <;> first | (simp [addD] at hp; done) | skip
  · rename_i i j
    rw [repW_int ha] at rx
    rw [repW_int hb] at ry
    simp only [addD, Option.some.injEq] at hp
    subst hp
    exact op_add pins s σ H _ _ v u Q I rx ry ⟨i, j, rfl, rfl, k _ _ (Grow.refl H) (.int _)⟩
  · rename_i i j
    obtain ⟨rfl, l1, o1⟩ := repW_str ha
    obtain ⟨rfl, l2, o2⟩ := repW_str hb
    simp only [addD, Option.ite_none_right_eq_some, Option.some.injEq] at hp
    obtain ⟨hl, rfl⟩ := hp
    exact op_add_str pins s σ H _ _ v u Q I rx ry ⟨i, j, rfl, rfl, hl, k _ _ (Grow.refl H) (.str _ (by rw [len_add]; exact hl) (ok_add o1 o2))⟩
  · rename_i i j
    obtain ⟨p, xs, rfl, e1, l1, r1⟩ := ha
    obtain ⟨q, ys, rfl, e2, l2, r2⟩ := hb
    simp only [addD, Option.ite_none_right_eq_some, Option.some.injEq] at hp
    obtain ⟨hl, rfl⟩ := hp
    refine op_catL pins s σ H _ _ v u Q I rx ry ⟨p, q, xs, ys, rfl, rfl, e1, e2, by rw [r1.length, r2.length]; exact hl, fun t ht => ?_⟩
    exact k _ _ (Grow.upd ht _) (new_lst al ht (by rw [List.length_append]; exact hl) (r1.append r2))
  · rename_i i j
    obtain ⟨p, xs, rfl, e1, l1, r1⟩ := repW_tup ha
    obtain ⟨q, ys, rfl, e2, l2, r2⟩ := repW_tup hb
    simp only [addD, Option.ite_none_right_eq_some, Option.some.injEq] at hp
    obtain ⟨hl, rfl⟩ := hp
    refine op_catA pins s σ H _ _ v u Q I rx ry ⟨p, q, xs, ys, rfl, rfl, e1.sq, e2.sq, by rw [r1.length, r2.length]; exact hl, fun c => ?_, fun c1 c2 => ?_, fun c1 c2 t ht => ?_⟩
    · have z : i = [] := r1.nil_iff.mp c
      subst z
      exact k _ _ (Grow.refl H) (.tup e2 l2 r2)
    · have z : j = [] := r2.nil_iff.mp c2
      subst z
      rw [List.append_nil] at k
      exact k _ _ (Grow.refl H) (.tup e1 l1 r1)
    · exact k _ _ (Grow.upd ht _) (new_tup al ht (by rw [List.length_append]; exact hl) (r1.append r2))
theorem int2_inv {f : Int → Int → Option PyData} {a b d : PyData} (h : int2 f [a, b] = some d) : ∃ i j, a = .int i ∧ b = .int j ∧ f i j = some d := by
  unfold int2 at h
  split at h
  · rename_i heq
    injection heq with e1 e2
    injection e2 with e2 _
    exact ⟨_, _, e1, e2, h⟩
  · cases h
theorem prim_int2 {p : Prim} {g : Int → Int → Option PyData} {f : Value → Value → Sem Value} {r : R2} (hr : OpR X f r) (hp : ∀ ds, primD p ds = int2 g ds)
    (hg : ∀ i j d H (Q : VK), g i j = some d → (∀ v, (∀ F, RepD X.K H F v d) → Q v H) → r (.int i) (.int j) H Q) : OpR X f (fun x y => RdR X.K p [x, y]) := by
  intro pins s σ H x y v u Q I rx ry h
  obtain ⟨F, ds, d, al, rw_, h, k⟩ := h
  obtain ⟨a, b, rfl, ha, hb⟩ := vals2' rw_
  rw [hp] at h
  obtain ⟨i, j, rfl, rfl, h⟩ := int2_inv h
  rw [repW_int ha] at rx
  rw [repW_int hb] at ry
  exact hr pins s σ H _ _ v u Q I rx ry (hg i j d H Q h fun v hv => k v H (Grow.refl H) (hv F))
theorem rI0_int {K : PySem.W.Frag} {g : Int → Int → Option PyData} {c : Int → Int → Int} (e : ∀ i j, g i j = some (.int (c i j))) (i j : Int) (d : PyData) (H : Hp) (Q : VK) (h : g i j = some d) (k : ∀ v, (∀ F, RepD K H F v d) → Q v H) :
    rI0 (fun i j => .int (c i j)) (.int i) (.int j) H Q := by
  rw [e] at h
  cases h
  exact ⟨i, j, rfl, rfl, k _ fun F => .int _⟩
theorem rI0_bl {K : PySem.W.Frag} {g : Int → Int → Option PyData} {c : Int → Int → Bool} (e : ∀ i j, g i j = some (.bool (c i j))) (i j : Int) (d : PyData) (H : Hp) (Q : VK) (h : g i j = some d) (k : ∀ v, (∀ F, RepD K H F v d) → Q v H) :
    rI0 (fun i j => .bl (c i j)) (.int i) (.int j) H Q := by
  rw [e] at h
  cases h
  exact ⟨i, j, rfl, rfl, k _ fun F => .bl _⟩
theorem prim_sub : OpR X (binaryOp .Sub) (fun x y => RdR X.K .sub [x, y]) := prim_int2 op_sub (fun _ => rfl) (rI0_int fun _ _ => rfl)
theorem prim_mul : OpR X (binaryOp .Mult) (fun x y => RdR X.K .mul [x, y]) := prim_int2 op_mul (fun _ => rfl) fun i j d H Q h k => by
  simp only [Option.ite_none_right_eq_some, Option.some.injEq] at h
  obtain ⟨h1, rfl⟩ := h
  refine ⟨i, j, rfl, rfl, ?_, k _ fun F => .int _⟩
  unfold mulOk at h1
  simpa [CMul] using h1
theorem prim_fdiv : OpR X (binaryOp .FloorDiv) (fun x y => RdR X.K .fdiv [x, y]) := prim_int2 op_fdiv (fun _ => rfl) fun i j d H Q h k => by
  simp only [Option.ite_none_right_eq_some, Option.some.injEq] at h
  obtain ⟨h1, rfl⟩ := h
  exact ⟨i, j, rfl, rfl, h1, k _ fun F => .int _⟩
theorem prim_mod : OpR X (binaryOp .Mod) (fun x y => RdR X.K .mod [x, y]) := prim_int2 op_mod (fun _ => rfl) fun i j d H Q h k => by
  simp only [Option.ite_none_right_eq_some, Option.some.injEq] at h
  obtain ⟨h1, rfl⟩ := h
  exact ⟨i, j, rfl, rfl, h1, k _ fun F => .int _⟩
theorem prim_lt : OpR X (compareOp .Lt) (fun x y => RdR X.K .lt [x, y]) := prim_int2 op_lt (fun _ => rfl) (rI0_bl fun _ _ => rfl)
theorem prim_le : OpR X (compareOp .LtE) (fun x y => RdR X.K .le [x, y]) := prim_int2 op_le (fun _ => rfl) (rI0_bl fun _ _ => rfl)
theorem prim_gt : OpR X (compareOp .Gt) (fun x y => RdR X.K .gt [x, y]) := prim_int2 op_gt (fun _ => rfl) (rI0_bl fun _ _ => rfl)
theorem prim_ge : OpR X (compareOp .GtE) (fun x y => RdR X.K .ge [x, y]) := prim_int2 op_ge (fun _ => rfl) (rI0_bl fun _ _ => rfl)
theorem prim_neg : UnR X (unaryOp .USub) (fun x => RdR X.K .neg [x]) := by
  intro pins s σ H x v Q I rx h
  obtain ⟨F, ds, d, al, rw_, h, k⟩ := h
  cases rw_ with
  | @cons _ a _ _ ha t =>
    cases t
    change negD a = some d at h
    cases a <;> first | (simp [negD] at h; done) | skip
    simp only [negD, Option.some.injEq] at h
    subst h
    rw [repW_int ha] at rx
    exact un_neg pins s σ H _ v Q I rx ⟨_, rfl, k _ _ (Grow.refl H) (.int _)⟩
theorem eqF_inv {a b : PyData} {t : Bool} (h : eqF a b = some t) : ((scalB a && scalB b) = true ∨ (fit 64 a = true ∧ fit 64 b = true)) ∧ a.eqv b = t := by
  unfold eqF at h
  split at h
  · rename_i c
    rw [Bool.or_eq_true, Bool.and_eq_true (fit 64 a)] at c
    exact ⟨c, Option.some.inj h⟩
  · cases h
theorem scal_dp {K : PySem.W.Frag} {H : Hp} {F : List Addr} {x : V} {a : PyData} (hx : RepW K H F x a) (h : scalB a = true ∨ fit 64 a = true) : Dp K H x a ∧ SeqAt.shaped a = true := by
  refine hx.shaped ?_
  rcases h with h | h
  · cases a <;> first | rfl | (exact absurd h Bool.false_ne_true)
  · exact h
theorem prim_eq (hu : X.A.units + 64 < cLine) : OpR X (compareOp .Eq) (fun x y => RdR X.K .eq [x, y]) := by
  intro pins s σ H x y v u Q I rx ry h
  obtain ⟨F, ds, d, al, rw_, h, k⟩ := h
  obtain ⟨a, b, rfl, ha, hb⟩ := vals2' rw_
  change (eqF a b).map PyData.bool = some d at h
  rw [Option.map_eq_some_iff] at h
  obtain ⟨t, h, rfl⟩ := h
  obtain ⟨c, rfl⟩ := eqF_inv h
  obtain ⟨d1, s1⟩ := scal_dp ha (c.imp (fun z => ((Bool.and_eq_true _ _).mp z).1) And.left)
  obtain ⟨d2, s2⟩ := scal_dp hb (c.imp (fun z => ((Bool.and_eq_true _ _).mp z).2) And.right)
  exact op_eqD hu pins s σ H _ _ v u Q I rx ry ⟨a, b, d1, d2, s1, s2, k _ _ (Grow.refl H) (.bl _)⟩
theorem prim_ne (hu : X.A.units + 64 < cLine) : OpR X (compareOp .NotEq) (fun x y => RdR X.K .ne [x, y]) := by
  intro pins s σ H x y v u Q I rx ry h
  obtain ⟨F, ds, d, al, rw_, h, k⟩ := h
  obtain ⟨a, b, rfl, ha, hb⟩ := vals2' rw_
  change (eqF a b).map (fun t => PyData.bool (!t)) = some d at h
  rw [Option.map_eq_some_iff] at h
  obtain ⟨t, h, rfl⟩ := h
  obtain ⟨c, rfl⟩ := eqF_inv h
  obtain ⟨d1, s1⟩ := scal_dp ha (c.imp (fun z => ((Bool.and_eq_true _ _).mp z).1) And.left)
  obtain ⟨d2, s2⟩ := scal_dp hb (c.imp (fun z => ((Bool.and_eq_true _ _).mp z).2) And.right)
  exact op_neD hu pins s σ H _ _ v u Q I rx ry ⟨a, b, d1, d2, s1, s2, k _ _ (Grow.refl H) (.bl _)⟩
theorem inV_strs (x : Str) : ∀ ys : List Str, inV (.str x) (ys.map V.str) = decide (x ∈ ys)
  | [] => by simp [inV]
  | y :: r => by
    have ih := inV_strs x r
    unfold inV at ih ⊢
    rw [List.map_cons, List.any_cons, ih]
    show ((y == x) || decide (x ∈ r)) = _
    by_cases e : x = y
    · subst e; simp
    · have e' : ¬ y = x := fun z => e z.symm
      simp [e, e']
theorem inD_inv {K : PySem.W.Frag} {H : Hp} {F : List Addr} {x y : V} {a b : PyData} {t : Bool} (ha : RepW K H F x a) (hb : RepW K H F y b) (h : inD a b = some t) :
    ∃ p xs, y = .ref p ∧ (SqL K H p xs ∨ SqT K H p xs) ∧ flatV x = true ∧ xs.all flatV = true ∧ inV x xs = t := by
  cases a <;> cases b <;> first | (simp [inD] at h; done) | skip
  · rename_i z ds
    obtain ⟨rfl, _⟩ := repW_str ha
    obtain ⟨p, xs, rfl, hr, _, r⟩ := hb
    change (strsOf ds).map _ = some t at h
    rw [Option.map_eq_some_iff] at h
    obtain ⟨ys, hy, rfl⟩ := h
    obtain ⟨rfl, _⟩ := reps_strs r hy
    exact ⟨p, _, rfl, .inl hr, rfl, by simp [flatV], inV_strs z ys⟩
  · rename_i z ds
    obtain ⟨rfl, _⟩ := repW_str ha
    obtain ⟨p, xs, rfl, hr, _, r⟩ := repW_tup hb
    change (strsOf ds).map _ = some t at h
    rw [Option.map_eq_some_iff] at h
    obtain ⟨ys, hy, rfl⟩ := h
    obtain ⟨rfl, _⟩ := reps_strs r hy
    exact ⟨p, _, rfl, .inr hr.sq, rfl, by simp [flatV], inV_strs z ys⟩
theorem prim_in : OpR X (compareOp .In) (fun x y => RdR X.K .isin [x, y]) := by
  intro pins s σ H x y v u Q I rx ry h
  obtain ⟨F, ds, d, al, rw_, h, k⟩ := h
  obtain ⟨a, b, rfl, ha, hb⟩ := vals2' rw_
  change (inD a b).map PyData.bool = some d at h
  rw [Option.map_eq_some_iff] at h
  obtain ⟨t, h, rfl⟩ := h
  obtain ⟨p, xs, rfl, h1, h2, h3, rfl⟩ := inD_inv ha hb h
  exact op_in_seq pins s σ H _ _ v u Q I rx ry ⟨p, xs, rfl, h1, h2, h3, k _ _ (Grow.refl H) (.bl _)⟩
theorem prim_notin : OpR X (compareOp .NotIn) (fun x y => RdR X.K .notin [x, y]) := by
  intro pins s σ H x y v u Q I rx ry h
  obtain ⟨F, ds, d, al, rw_, h, k⟩ := h
  obtain ⟨a, b, rfl, ha, hb⟩ := vals2' rw_
  change (inD a b).map (fun t => PyData.bool (!t)) = some d at h
  rw [Option.map_eq_some_iff] at h
  obtain ⟨t, h, rfl⟩ := h
  obtain ⟨p, xs, rfl, h1, h2, h3, rfl⟩ := inD_inv ha hb h
  exact op_notIn_seq pins s σ H _ _ v u Q I rx ry ⟨p, xs, rfl, h1, h2, h3, k _ _ (Grow.refl H) (.bl _)⟩
theorem prim_ix : IxR X (fun x y => RdR X.K .ix [x, y]) := by
  intro va sl pins s σ H x y v u Q I rx ry h hs
  obtain ⟨F, ds, d, al, rw_, h, k⟩ := h
  obtain ⟨a, b, rfl, ha, hb⟩ := vals2' rw_
  change ixD a b = some d at h
  cases a <;> cases b <;> first | (simp [ixD] at h; done) | skip
  · rename_i z i
    rw [repW_int hb] at ry
    obtain ⟨rfl, l, o⟩ := repW_str ha
    simp only [ixD, Option.map_eq_some_iff] at h
    obtain ⟨c, hc, rfl⟩ := h
    have hm : c ∈ z.cps.toList := by
      unfold atIx at hc
      split at hc
      · exact List.mem_of_getElem? hc
      · split at hc
        · exact List.mem_of_getElem? hc
        · cases hc
    exact ix_str va sl pins s σ H _ _ v u Q I rx ry ⟨z, i, c, rfl, rfl, l, by rw [← atIx_atI]; exact hc, k _ _ (Grow.refl H) (.str _ (by show 1 ≤ sizeLine; decide) (ok_sign o hm))⟩ hs
  · rename_i xs i
    rw [repW_int hb] at ry
    obtain ⟨p, ys, rfl, hr, l, r⟩ := ha
    obtain ⟨w', hw, rd⟩ := r.atI h
    exact ix_list va sl pins s σ H _ _ v u Q I rx ry ⟨p, ys, i, w', rfl, rfl, hr, hw, k _ _ (Grow.refl H) rd⟩ hs
  · rename_i xs i
    rw [repW_int hb] at ry
    obtain ⟨p, ys, rfl, hr, l, r⟩ := repW_tup ha
    obtain ⟨w', hw, rd⟩ := r.atI h
    exact ix_tup va sl pins s σ H _ _ v u Q I rx ry ⟨p, ys, i, w', rfl, rfl, hr.sq, hw, k _ _ (Grow.refl H) rd⟩ hs
def SlP (K : PySem.W.Frag) : V → Option Int → Option Int → Hp → VK → Prop := fun x lo hi H Q => ∃ F a d, Alloc H F ∧ RepW K H F x a ∧ slcF a lo hi = some d ∧ ∀ v H', Grow H H' → RepD K H' F v d → Q v H'
theorem prim_slc : SlR X (SlP X.K) := by
  intro pins s σ H x v vl vu lo hi sl Q I rx hs pl pu h
  obtain ⟨F, a, d, al, ha, h, k⟩ := h
  cases a <;> first | (simp [slcF] at h; done) | skip
  · rename_i ds
    simp only [slcF, Option.some.injEq] at h
    subst h
    obtain ⟨p, ys, rfl, hr, l, r⟩ := ha
    refine sl_list pins s σ H _ v vl vu lo hi sl Q I rx hs pl pu ⟨p, ys, rfl, hr, fun t ht => ?_⟩
    exact k _ _ (Grow.upd ht _) (new_lst al ht (Nat.le_trans (cut_length _ _ _) l) (r.cut lo hi))
  · rename_i ds
    simp only [slcF, Option.some.injEq] at h
    subst h
    obtain ⟨p, ys, rfl, hr, l, r⟩ := repW_tup ha
    refine sl_tupA pins s σ H _ v vl vu lo hi sl Q I rx hs pl pu ⟨p, ys, rfl, hr.sq, fun c => ?_, fun c t ht => ?_⟩
    · have e : Thr.cut ds lo hi = ds := by
        unfold Thr.cut
        rw [r.length] at c
        rw [c.1, c.2, List.drop_zero, Nat.sub_zero, List.take_length]
      rw [e] at k
      exact k _ _ (Grow.refl H) (.tup hr l r)
    · exact k _ _ (Grow.upd ht _) (new_tup al ht (Nat.le_trans (cut_length _ _ _) l) (r.cut lo hi))

/-! ### calls of built-ins -/
theorem rep1 {K : PySem.W.Frag} {H : Hp} {F : List Addr} {xs : List V} {f : PyData → Option PyData} {ds : List PyData} {d : PyData} (r : RepWs K H F xs ds) (h : one f ds = some d) : ∃ x a, xs = [x] ∧ ds = [a] ∧ RepW K H F x a ∧ f a = some d := by
  unfold one at h
  split at h
  · obtain ⟨x, rfl, hx⟩ := vals1' r
    exact ⟨x, _, rfl, rfl, hx, h⟩
  · cases h
theorem prim_len : CallR X (.builtin "len") (RdR X.K .len) := by
  intro pins s σ H xs us Q I rs h
  obtain ⟨F, ds, d, al, rw_, h, k⟩ := h
  obtain ⟨x, a, rfl, rfl, ha, h⟩ := rep1 rw_ (show one lenD ds = some d from h)
  cases a <;> first | (simp [lenD] at h; done) | skip
  · obtain ⟨rfl, l, _⟩ := repW_str ha
    simp only [lenD, Option.some.injEq] at h
    subst h
    exact call_len_str pins s σ H _ us Q I rs ⟨_, rfl, l, k _ _ (Grow.refl H) (.int _)⟩
  · obtain ⟨p, ys, rfl, hr, l, r⟩ := ha
    simp only [lenD, Option.some.injEq] at h
    subst h
    refine call_len_seq pins s σ H _ us Q I rs ⟨p, ys, rfl, .inl hr, ?_⟩
    rw [r.length]
    exact k _ _ (Grow.refl H) (.int _)
  · obtain ⟨p, ys, rfl, hr, l, r⟩ := repW_tup ha
    simp only [lenD, Option.some.injEq] at h
    subst h
    refine call_len_seq pins s σ H _ us Q I rs ⟨p, ys, rfl, .inr hr.sq, ?_⟩
    rw [r.length]
    exact k _ _ (Grow.refl H) (.int _)
theorem prim_tupOf : CallR X (.type "tuple") (RdR X.K .tupOf) := by
  intro pins s σ H xs us Q I rs h
  obtain ⟨F, ds, d, al, rw_, h, k⟩ := h
  obtain ⟨x, a, rfl, rfl, ha, h⟩ := rep1 rw_ (show one tupD ds = some d from h)
  cases a <;> first | (simp [tupD] at h; done) | skip
  · obtain ⟨p, ys, rfl, hr, l, r⟩ := ha
    simp only [tupD, Option.some.injEq] at h
    subst h
    exact call_tuple_of pins s σ H _ us Q I rs ⟨p, ys, rfl, .inl ⟨hr, fun t ht => k _ _ (Grow.upd ht _) (new_tup al ht l r)⟩⟩
  · obtain ⟨p, ys, rfl, hr, l, r⟩ := repW_tup ha
    simp only [tupD, Option.some.injEq] at h
    subst h
    exact call_tuple_of pins s σ H _ us Q I rs ⟨p, ys, rfl, .inr ⟨hr.sq, k _ _ (Grow.refl H) (.tup hr l r)⟩⟩
theorem prim_lstOf : CallR X (.type "list") (RdR X.K .lstOf) := by
  intro pins s σ H xs us Q I rs h
  obtain ⟨F, ds, d, al, rw_, h, k⟩ := h
  obtain ⟨x, a, rfl, rfl, ha, h⟩ := rep1 rw_ (show one lstD ds = some d from h)
  cases a <;> first | (simp [lstD] at h; done) | skip
  · obtain ⟨p, ys, rfl, hr, l, r⟩ := ha
    simp only [lstD, Option.some.injEq] at h
    subst h
    exact call_list_of pins s σ H _ us Q I rs ⟨p, ys, rfl, .inl hr, fun t ht => k _ _ (Grow.upd ht _) (new_lst al ht l r)⟩
  · obtain ⟨p, ys, rfl, hr, l, r⟩ := repW_tup ha
    simp only [lstD, Option.some.injEq] at h
    subst h
    exact call_list_of pins s σ H _ us Q I rs ⟨p, ys, rfl, .inr hr.sq, fun t ht => k _ _ (Grow.upd ht _) (new_lst al ht l r)⟩
theorem prim_intOf : CallR X (.type "int") (RdR X.K .intOf) := by
  intro pins s σ H xs us Q I rs h
  obtain ⟨F, ds, d, al, rw_, h, k⟩ := h
  obtain ⟨x, a, rfl, rfl, ha, h⟩ := rep1 rw_ (show one intD ds = some d from h)
  cases a <;> first | (simp [intD] at h; done) | skip
  · rw [repW_bool ha] at rs
    simp only [intD, Option.some.injEq] at h
    subst h
    exact call_int1 pins s σ H _ us Q I rs (.inr ⟨_, rfl, k _ _ (Grow.refl H) (.int _)⟩)
  · rw [repW_int ha] at rs
    simp only [intD, Option.some.injEq] at h
    subst h
    exact call_int1 pins s σ H _ us Q I rs (.inl ⟨_, rfl, k _ _ (Grow.refl H) (.int _)⟩)
theorem prim_strOf : CallR X (.type "str") (RdR X.K .strOf) := by
  intro pins s σ H xs us Q I rs h
  obtain ⟨F, ds, d, al, rw_, h, k⟩ := h
  obtain ⟨x, a, rfl, rfl, ha, h⟩ := rep1 rw_ (show one strD ds = some d from h)
  cases a <;> first | (simp [strD] at h; done) | skip
  · rw [repW_int ha] at rs
    simp only [strD, Option.ite_none_right_eq_some, Option.some.injEq] at h
    obtain ⟨⟨h1, h2⟩, rfl⟩ := h
    exact call_str_int pins s σ H _ us Q I rs ⟨_, rfl, h1, k _ _ (Grow.refl H) (.str _ h2 (ok_num _))⟩
  · obtain ⟨rfl, l, o⟩ := repW_str ha
    simp only [strD, Option.some.injEq] at h
    subst h
    exact SkE.call_str_str pins s σ H _ us Q I rs ⟨_, rfl, k _ _ (Grow.refl H) (.str _ l o)⟩
theorem prim_sumOf (hc : X.calm = true) : CallR X (.builtin "sum") (RdR X.K .sumOf) := by
  intro pins s σ H xs us Q I rs h
  obtain ⟨F, ds, d, al, rw_, h, k⟩ := h
  obtain ⟨x, a, rfl, rfl, ha, h⟩ := rep1 rw_ (show one sumD ds = some d from h)
  cases a <;> first | (simp [sumD] at h; done) | skip
  obtain ⟨p, ys, rfl, hr, l, r⟩ := ha
  simp only [sumD, Option.map_eq_some_iff] at h
  obtain ⟨ns, hn, rfl⟩ := h
  rw [reps_ints r hn] at hr
  exact cr_sum hc pins s σ H _ us Q I rs ⟨p, ns, rfl, hr, k _ _ (Grow.refl H) (.int _)⟩
theorem prim_allOf (hc : X.calm = true) : CallR X (.builtin "all") (RdR X.K .allOf) := by
  intro pins s σ H xs us Q I rs h
  obtain ⟨F, ds, d, al, rw_, h, k⟩ := h
  obtain ⟨x, a, rfl, rfl, ha, h⟩ := rep1 rw_ (show one allF ds = some d from h)
  cases a <;> first | (simp [allF] at h; done) | skip
  obtain ⟨p, ys, rfl, hr, l, r⟩ := ha
  simp only [allF, Option.map_eq_some_iff] at h
  obtain ⟨ns, hn, rfl⟩ := h
  rw [reps_bools r hn] at hr
  exact cr_all hc pins s σ H _ us Q I rs ⟨p, ns, rfl, hr, k _ _ (Grow.refl H) (.bl _)⟩
theorem prim_anyOf (hc : X.calm = true) : CallR X (.builtin "any") (RdR X.K .anyOf) := by
  intro pins s σ H xs us Q I rs h
  obtain ⟨F, ds, d, al, rw_, h, k⟩ := h
  obtain ⟨x, a, rfl, rfl, ha, h⟩ := rep1 rw_ (show one anyF ds = some d from h)
  cases a <;> first | (simp [anyF] at h; done) | skip
  obtain ⟨p, ys, rfl, hr, l, r⟩ := ha
  simp only [anyF, Option.map_eq_some_iff] at h
  obtain ⟨ns, hn, rfl⟩ := h
  rw [reps_bools r hn] at hr
  exact cr_any hc pins s σ H _ us Q I rs ⟨p, ns, rfl, hr, k _ _ (Grow.refl H) (.bl _)⟩
/-- o.join(xs), by values -/
theorem prim_join : MtR X "str.join" (fun x xs => RdR X.K .join (x :: xs)) := by
  intro pins s σ H x xs v us Q I rx rs h
  obtain ⟨F, ds, d, al, rw_, h, k⟩ := h
  change two joinD ds = some d at h
  unfold two at h
  split at h
  · rename_i a b
    cases rw_ with
    | cons ha t =>
      cases t with
      | cons hb t =>
        cases t
        cases a <;> cases b <;> first | (simp [joinD] at h; done) | skip
        all_goals
          rename_i z es
          obtain ⟨rfl, l, o⟩ := repW_str ha
          simp only [joinD, Option.bind_eq_some_iff, Option.ite_none_right_eq_some, Option.some.injEq] at h
          obtain ⟨zs, hz, hl, rfl⟩ := h
        · obtain ⟨p, ys, rfl, hr, l2, r⟩ := hb
          obtain ⟨e, hok⟩ := reps_strs r hz
          rw [e] at hr
          have q := k (.str (z.join zs)) H (Grow.refl H) (.str _ (Nat.le_trans (len_join z zs) (by rw [size_line]; exact hl)) (ok_join o fun y hy => (hok y hy).2))
          exact mt_join pins s σ H _ _ v us Q I rx rs ⟨z, p, zs, rfl, rfl, .inl hr, hl, by show Q (.str (Builtin.Str.glued z zs)) H; rw [StrLaws.glued_eq_join]; exact q⟩
        · have hb' : RepD X.K H F _ (.tuple es) := hb
          cases hb' with
          | @tup p ys ds hr l2 r =>
          obtain ⟨e, hok⟩ := reps_strs r hz
          have hr := hr.sq
          rw [e] at hr
          have q := k (.str (z.join zs)) H (Grow.refl H) (.str _ (Nat.le_trans (len_join z zs) (by rw [size_line]; exact hl)) (ok_join o fun y hy => (hok y hy).2))
          exact mt_join pins s σ H _ _ v us Q I rx rs ⟨z, p, zs, rfl, rfl, .inr hr, hl, by show Q (.str (Builtin.Str.glued z zs)) H; rw [StrLaws.glued_eq_join]; exact q⟩
  · cases h
end
end Thr
/-! The store of cells in the heap. -/
namespace Thr
open PySem PySem.Spec PyProof.Rows L2

inductive CA where
  | lst (a : Addr) | dct (a : Addr)
def CA.addr : CA → Addr
  | .lst a => a
  | .dct a => a
/-- the lists in the making, the cells -/
structure Wld where
  z : List Addr
  cs : List CA
def foot (ι : Wld) : List Addr := ι.z ++ ι.cs.map CA.addr
def Wld.add (ι : Wld) (ca : CA) : Wld := ⟨ι.z, ι.cs ++ [ca]⟩
def RelC (K : PySem.W.Frag) (H : Hp) (F : List Addr) : Cell → CA → Prop
  | .lst ds, .lst a => ∃ xs, H a = some (.lst xs) ∧ ds.length ≤ sizeLine ∧ RepDs K H F xs ds
  | .dct kvs, .dct a => ∃ ks, H a = some (.dK ks) ∧ ks.length ≤ sizeLine ∧ RepKs K H F ks (kvs.map fun p => (.str p.1, p.2))
  | _, _ => False
structure Rel (K : PySem.W.Frag) (H : Hp) (ι : Wld) (st : Store) : Prop where
  len : st.length = ι.cs.length
  cells : ∀ (n : Nat) (c : Cell), st[n]? = some c → ∃ ca, ι.cs[n]? = some ca ∧ RelC K H (foot ι) c ca
  nd : (foot ι).Nodup
  zal : ∀ a ∈ ι.z, H a ≠ none
structure Ev (H : Hp) (ι : Wld) (H' : Hp) (ι' : Wld) : Prop where
  pre : ∃ more, ι' = ⟨ι.z, ι.cs ++ more⟩
  ext : Ext H (foot ι) H' (foot ι')
  zk : ∀ a ∈ ι.z, H' a = H a
def RepV (K : PySem.W.Frag) (H : Hp) (ι : Wld) (v : V) : PV → Prop
  | .d x => RepD K H (foot ι) v x
  | .ref n => ∃ ca, ι.cs[n]? = some ca ∧ v = .ref ca.addr
def RepVs (K : PySem.W.Frag) (H : Hp) (ι : Wld) : List V → List PV → Prop := Paired (RepV K H ι)
structure RepE (K : PySem.W.Frag) (H : Hp) (ι : Wld) (σ : L2.St) (ρ : Slots) : Prop where
  len : σ.length = ρ.length
  at_ : ∀ (i : Nat) (pv : PV), ρ[i]? = some (some pv) → ∃ v, σ[i]? = some (some v) ∧ RepV K H ι v pv

section
variable {K : PySem.W.Frag} {H H' H1 H2 : Hp} {ι ι' ι1 ι2 : Wld} {st st' : Store}
theorem Ev.refl (H : Hp) (ι : Wld) : Ev H ι H ι := ⟨⟨[], by simp⟩, .refl _ _, fun _ _ => rfl⟩
theorem Ev.trans (a : Ev H ι H1 ι1) (b : Ev H1 ι1 H2 ι2) : Ev H ι H2 ι2 := by
  obtain ⟨m, rfl⟩ := a.pre
  obtain ⟨m2, rfl⟩ := b.pre
  exact ⟨⟨m ++ m2, by rw [List.append_assoc]⟩, a.ext.trans b.ext, fun c h => (b.zk c h).trans (a.zk c h)⟩
theorem Ev.get (e : Ev H ι H' ι') {n : Nat} {ca : CA} (h : ι.cs[n]? = some ca) : ι'.cs[n]? = some ca := by
  obtain ⟨m, rfl⟩ := e.pre
  show (ι.cs ++ m)[n]? = some ca
  rw [List.getElem?_append_left (List.getElem?_eq_some_iff.mp h).1]
  exact h
theorem RepV.mono (e : Ev H ι H' ι') {v : V} {pv : PV} (h : RepV K H ι v pv) : RepV K H' ι' v pv := by
  cases pv with
  | d x => exact RepD.mono e.ext h
  | ref n =>
    obtain ⟨ca, h1, h2⟩ := h
    exact ⟨ca, e.get h1, h2⟩
theorem Paired.imp {α β : Type} {F G : α → β → Prop} : ∀ {l : List α} {m : List β}, Paired F l m → (∀ a b, F a b → G a b) → Paired G l m
  | _, _, .nil, _ => .nil
  | _, _, .cons r t, f => .cons (f _ _ r) (Paired.imp t f)
theorem RepVs.mono (e : Ev H ι H' ι') {vs : List V} {pvs : List PV} (h : RepVs K H ι vs pvs) : RepVs K H' ι' vs pvs := Paired.imp h fun _ _ r => r.mono e
theorem RepE.mono (e : Ev H ι H' ι') {σ : L2.St} {ρ : Slots} (h : RepE K H ι σ ρ) : RepE K H' ι' σ ρ :=
  ⟨h.len, fun i pv q => let ⟨v, a, b⟩ := h.at_ i pv q; ⟨v, a, b.mono e⟩⟩
theorem RelC.here {F : List Addr} {c : Cell} {ca : CA} (h : RelC K H F c ca) : H ca.addr ≠ none := by
  have go : ∀ {a : Addr} {o : HO}, H a = some o → H a ≠ none := fun e z => by rw [e] at z; cases z
  cases c <;> cases ca <;> first | (exact h.elim) | skip
  · obtain ⟨xs, e, _⟩ := h
    exact go e
  · obtain ⟨xs, e, _⟩ := h
    exact go e
theorem Rel.alloc (r : Rel K H ι st) : Alloc H (foot ι) := fun a ha => by
  rcases List.mem_append.mp ha with ha | ha
  · exact r.zal a ha
  obtain ⟨ca, hm, rfl⟩ := List.mem_map.mp ha
  obtain ⟨n, hn⟩ := List.getElem?_of_mem hm
  have hlt : n < st.length := by rw [r.len]; exact (List.getElem?_eq_some_iff.mp hn).1
  obtain ⟨ca', h1, h2⟩ := r.cells n _ (List.getElem?_eq_getElem hlt)
  rw [hn] at h1; cases h1
  exact h2.here
theorem grow_ne (g : Grow H H') {a : Addr} (h : H a ≠ none) : H' a = H a := by
  cases e : H a with
  | none => exact absurd e h
  | some o => exact g a o e
theorem Rel.ev (r : Rel K H ι st) (g : Grow H H') : Ev H ι H' ι := ⟨⟨[], by simp⟩, g.ext _, fun a ha => grow_ne g (r.zal a ha)⟩
theorem RelC.grow {F : List Addr} {c : Cell} {ca : CA} (g : Grow H H') (h : RelC K H F c ca) : RelC K H' F c ca := by
  cases c <;> cases ca <;> first | (exact h.elim) | skip
  · obtain ⟨xs, e, l, r⟩ := h
    exact ⟨xs, g _ _ e, l, r.mono (g.ext F)⟩
  · obtain ⟨xs, e, l, r⟩ := h
    exact ⟨xs, g _ _ e, l, r.mono (g.ext F)⟩
theorem Rel.grow (r : Rel K H ι st) (g : Grow H H') : Rel K H' ι st := ⟨r.len, fun n c h => let ⟨ca, a, b⟩ := r.cells n c h; ⟨ca, a, b.grow g⟩, r.nd, fun a ha => by rw [grow_ne g (r.zal a ha)]; exact r.zal a ha⟩
/-! a new cell at p -/
theorem foot_add (ι : Wld) (ca : CA) : foot (ι.add ca) = foot ι ++ [ca.addr] := by simp [foot, Wld.add]
theorem Ext.snoc {F : List Addr} {p : Addr} (g : Grow H H') (hp : H p = none) : Ext H F H' (F ++ [p]) := fun a o h n => ⟨g a o h, by
  rw [List.mem_append, not_or]
  refine ⟨n, fun z => ?_⟩
  rw [List.mem_singleton] at z
  subst z
  rw [hp] at h; cases h⟩
theorem RelC.mono {F F' : List Addr} {c : Cell} {ca : CA} (h : RelC K H F c ca) (e : H' ca.addr = H ca.addr) (ex : Ext H F H' F') : RelC K H' F' c ca := by
  cases c <;> cases ca <;> first | (exact h.elim) | skip
  · obtain ⟨xs, a, l, r⟩ := h
    exact ⟨xs, e.trans a, l, r.mono ex⟩
  · obtain ⟨xs, a, l, r⟩ := h
    exact ⟨xs, e.trans a, l, r.mono ex⟩
theorem Rel.newCell {p : Addr} {o : HO} {c : Cell} {ca : CA} (r : Rel K H ι st) (hp : H p = none) (hca : ca.addr = p) (hc : RelC K (upd H p o) (foot (ι.add ca)) c ca) :
    Rel K (upd H p o) (ι.add ca) (st ++ [c]) ∧ Ev H ι (upd H p o) (ι.add ca) := by
  have ex : Ext H (foot ι) (upd H p o) (foot (ι.add ca)) := by rw [foot_add, hca]; exact Ext.snoc (Grow.upd hp o) hp
  have zk : ∀ a ∈ ι.z, upd H p o a = H a := fun a ha => grow_ne (Grow.upd hp o) (r.zal a ha)
  refine ⟨⟨by simp [r.len, Wld.add], fun n d hd => ?_, ?_, fun a ha => by rw [zk a ha]; exact r.zal a ha⟩, ⟨_, rfl⟩, ex, zk⟩
  · by_cases hn : n < st.length
    · rw [List.getElem?_append_left hn] at hd
      obtain ⟨cb, h1, h2⟩ := r.cells n d hd
      refine ⟨cb, by show (ι.cs ++ [ca])[n]? = _; rw [List.getElem?_append_left (by rw [← r.len]; exact hn)]; exact h1, ?_⟩
      exact h2.mono (grow_ne (Grow.upd hp o) h2.here) ex
    · have hn' : n = st.length := by
        have := (List.getElem?_eq_some_iff.mp hd).1
        simp at this; omega
      subst hn'
      rw [List.getElem?_append_right (Nat.le_refl _)] at hd
      simp at hd
      subst hd
      exact ⟨ca, by show (ι.cs ++ [ca])[_]? = _; rw [r.len, List.getElem?_append_right (Nat.le_refl _)]; simp, hc⟩
  · rw [foot_add]
    refine List.nodup_append.mpr ⟨r.nd, by simp, fun a ha b hb e => ?_⟩
    rw [List.mem_singleton] at hb
    subst hb; subst e
    rw [hca] at ha
    exact r.alloc p ha hp
/-- a cell changed in its place -/
theorem Rel.change {n : Nat} {p : Addr} {o : HO} {c : Cell} {ca : CA} (r : Rel K H ι st) (hn : ι.cs[n]? = some ca) (hca : ca.addr = p)
    (hc : Ext H (foot ι) (upd H p o) (foot ι) → RelC K (upd H p o) (foot ι) c ca) :
    Rel K (upd H p o) ι (st.set n c) ∧ Ev H ι (upd H p o) ι := by
  have hpC : p ∈ ι.cs.map CA.addr := by rw [← hca]; exact List.mem_map.mpr ⟨ca, List.mem_of_getElem? hn, rfl⟩
  have hpF : p ∈ foot ι := List.mem_append_right _ hpC
  have ex : Ext H (foot ι) (upd H p o) (foot ι) := fun a u h na => ⟨(upd_ne (fun z => na (by rw [z]; exact hpF))).trans h, na⟩
  obtain ⟨ndz, ndc, disj⟩ := List.nodup_append.mp r.nd
  have zk : ∀ a ∈ ι.z, upd H p o a = H a := fun a ha => upd_ne (disj a ha p hpC)
  refine ⟨⟨by simp [r.len], fun m d hd => ?_, r.nd, fun a ha => by rw [zk a ha]; exact r.zal a ha⟩, ⟨[], by simp⟩, ex, zk⟩
  by_cases hm : n = m
  · subst hm
    have hlt : n < st.length := by
      have := (List.getElem?_eq_some_iff.mp hd).1
      simpa using this
    rw [List.getElem?_set_self hlt] at hd
    cases hd
    exact ⟨ca, hn, hc ex⟩
  · rw [List.getElem?_set_ne hm] at hd
    obtain ⟨cb, h1, h2⟩ := r.cells m d hd
    refine ⟨cb, h1, ?_⟩
    have ne : cb.addr ≠ p := by
      intro z
      have l1 := (List.getElem?_eq_some_iff.mp h1).1
      have l2 := (List.getElem?_eq_some_iff.mp hn).1
      have e1 : (ι.cs.map CA.addr)[m]? = some p := by rw [List.getElem?_map, h1]; simp [z]
      have e2 : (ι.cs.map CA.addr)[n]? = some p := by rw [List.getElem?_map, hn]; simp [hca]
      have l1' : m < (ι.cs.map CA.addr).length := by simpa using l1
      have l2' : n < (ι.cs.map CA.addr).length := by simpa using l2
      rw [List.getElem?_eq_getElem l1'] at e1
      rw [List.getElem?_eq_getElem l2'] at e2
      exact hm ((List.getElem_inj ndc).mp ((Option.some.inj e2).trans (Option.some.inj e1).symm))
    exact h2.mono (upd_ne ne) ex
theorem view_rep {v : V} {pv : PV} {d : PyData} (r : Rel K H ι st) (h : RepV K H ι v pv) (e : view st pv = some d) : RepW K H (foot ι) v d := by
  cases pv with
  | d x =>
    simp only [view, Option.some.injEq] at e
    subst e
    exact RepD.w h
  | ref n =>
    obtain ⟨ca, h1, rfl⟩ := h
    simp only [view] at e
    split at e
    · rename_i xs hs
      cases e
      obtain ⟨cb, h2, h3⟩ := r.cells n _ hs
      rw [h1] at h2; cases h2
      cases ca <;> first | (exact h3.elim) | skip
      obtain ⟨ys, a, b, c⟩ := h3
      exact ⟨_, _, rfl, .inl (.inl a), b, c⟩
    · rename_i kvs hs
      cases e
      obtain ⟨cb, h2, h3⟩ := r.cells n _ hs
      rw [h1] at h2; cases h2
      cases ca <;> first | (exact h3.elim) | skip
      obtain ⟨ys, a, b, c⟩ := h3
      exact ⟨_, _, rfl, a, b, c⟩
    · cases e
theorem views_rep : ∀ {vs : List V} {pvs : List PV} {ds : List PyData}, Rel K H ι st → RepVs K H ι vs pvs → views st pvs = some ds → RepWs K H (foot ι) vs ds
  | _, _, _, _, .nil, e => by cases e; exact .nil
  | _, _, _, r, .cons h t, e => by
    simp only [views, Option.bind_eq_some_iff, Option.map_eq_some_iff] at e
    obtain ⟨x, h1, ts, h2, rfl⟩ := e
    exact .cons (view_rep r h h1) (views_rep r t h2)
theorem allD_rep : ∀ {vs : List V} {pvs : List PV} {ds : List PyData}, RepVs K H ι vs pvs → allD pvs = some ds → RepDs K H (foot ι) vs ds
  | _, _, _, .nil, e => by cases e; exact .nil
  | _, _, _, @Paired.cons _ _ _ v pv _ _ h t, e => by
    cases pv with
    | d x =>
      simp only [allD, Option.map_eq_some_iff] at e
      obtain ⟨ts, h2, rfl⟩ := e
      exact .cons h (allD_rep t h2)
    | ref n => cases e
theorem small1000' {n : Nat} (h : n ≤ 1000) : n ≤ sizeLine := Nat.le_trans h (by decide)
end

/-! ### the prims with the store -/
def PrR (K : PySem.W.Frag) (p : Prim) (xs : List V) (H : Hp) (Q : VK) : Prop := ∃ ι st pvs pv st', Rel K H ι st ∧ RepVs K H ι xs pvs ∧ primF p pvs st = some (pv, st') ∧
  ∀ v H' ι', Rel K H' ι' st' → Ev H ι H' ι' → RepV K H' ι' v pv → Q v H'
def reads : Prim → Bool
  | .tup | .lst | .boxL | .append | .boxD _ | .mkD _ | .extend => false
  | _ => true
theorem primF_reads {p : Prim} (h : reads p = true) (vs : List PV) (st : Store) : primF p vs st = (views st vs).bind fun ds => (primD p ds).map fun x => (.d x, st) := by
  cases p <;> first | rfl | (exact absurd h Bool.false_ne_true)
theorem PrR.rd {K : PySem.W.Frag} {p : Prim} (hp : reads p = true) {xs : List V} {H : Hp} {Q : VK} (h : PrR K p xs H Q) : RdR K p xs H Q := by
  obtain ⟨ι, st, pvs, pv, st', r, rv, e, k⟩ := h
  rw [primF_reads hp, Option.bind_eq_some_iff] at e
  obtain ⟨ds, h1, e⟩ := e
  rw [Option.map_eq_some_iff] at e
  obtain ⟨d, h2, e⟩ := e
  cases e
  exact ⟨foot ι, ds, d, r.alloc, views_rep r rv h1, h2, fun v H' g rd => k v H' ι (r.grow g) (r.ev g) rd⟩
theorem OpR.imp {X : Cx} {f : Value → Value → Sem Value} {r r' : R2} (h : OpR X f r) (i : ∀ x y H Q, r' x y H Q → r x y H Q) : OpR X f r' :=
  fun pins s σ H x y v u Q I rx ry q => h pins s σ H x y v u Q I rx ry (i _ _ _ _ q)
theorem UnR.imp {X : Cx} {f : Value → Sem Value} {r r' : V → Hp → VK → Prop} (h : UnR X f r) (i : ∀ x H Q, r' x H Q → r x H Q) : UnR X f r' :=
  fun pins s σ H x v Q I rx q => h pins s σ H x v Q I rx (i _ _ _ q)
theorem CallR.imp {X : Cx} {f : Value} {r r' : List V → Hp → VK → Prop} (h : CallR X f r) (i : ∀ x H Q, r' x H Q → r x H Q) : CallR X f r' :=
  fun pins s σ H x v Q I rx q => h pins s σ H x v Q I rx (i _ _ _ q)
theorem IxR.imp {X : Cx} {r r' : R2} (h : IxR X r) (i : ∀ x y H Q, r' x y H Q → r x y H Q) : IxR X r' :=
  fun a b pins s σ H x y v u Q I rx ry q => h a b pins s σ H x y v u Q I rx ry (i _ _ _ _ q)
theorem MtR.imp {X : Cx} {id : String} {r r' : V → List V → Hp → VK → Prop} (h : MtR X id r) (i : ∀ x y H Q, r' x y H Q → r x y H Q) : MtR X id r' :=
  fun pins s σ H x xs v us Q I rx ry q => h pins s σ H x xs v us Q I rx ry (i _ _ _ _ q)
/-- a written tuple, a written list, a list that is to change -/
theorem tup_ok {K : PySem.W.Frag} {xs : List V} {H : Hp} {Q : VK} (h : PrR K .tup xs H Q) : xs.length ≤ sizeLine ∧ ∀ p, H p = none → Q (.ref p) (upd H p (.tup xs)) := by
  obtain ⟨ι, st, pvs, pv, st', r, rv, e, k⟩ := h
  simp only [primF, Option.bind_eq_some_iff, Option.ite_none_right_eq_some, Option.some.injEq, Prod.mk.injEq] at e
  obtain ⟨ds, h1, h2, rfl, rfl⟩ := e
  have rd := allD_rep rv h1
  exact ⟨by rw [rd.length]; exact small1000' h2, fun p hp => k _ _ ι (r.grow (Grow.upd hp _)) (r.ev (Grow.upd hp _)) (new_tup r.alloc hp (small1000' h2) rd)⟩
theorem lst_ok {K : PySem.W.Frag} {xs : List V} {H : Hp} {Q : VK} (h : PrR K .lst xs H Q) : xs.length ≤ sizeLine ∧ ∀ p, H p = none → Q (.ref p) (upd H p (.lst xs)) := by
  obtain ⟨ι, st, pvs, pv, st', r, rv, e, k⟩ := h
  simp only [primF, Option.bind_eq_some_iff, Option.ite_none_right_eq_some, Option.some.injEq, Prod.mk.injEq] at e
  obtain ⟨ds, h1, h2, rfl, rfl⟩ := e
  have rd := allD_rep rv h1
  exact ⟨by rw [rd.length]; exact small1000' h2, fun p hp => k _ _ ι (r.grow (Grow.upd hp _)) (r.ev (Grow.upd hp _)) (new_lst r.alloc hp (small1000' h2) rd)⟩
theorem box_ok {K : PySem.W.Frag} {xs : List V} {H : Hp} {Q : VK} (h : PrR K .boxL xs H Q) : xs.length ≤ sizeLine ∧ ∀ p, H p = none → Q (.ref p) (upd H p (.lst xs)) := by
  obtain ⟨ι, st, pvs, pv, st', r, rv, e, k⟩ := h
  simp only [primF, Option.bind_eq_some_iff, Option.ite_none_right_eq_some, Option.some.injEq, Prod.mk.injEq] at e
  obtain ⟨ds, h1, h2, rfl, rfl⟩ := e
  have rd := allD_rep rv h1
  refine ⟨by rw [rd.length]; exact small1000' h2, fun p hp => ?_⟩
  obtain ⟨a, b⟩ := r.newCell (o := .lst xs) (c := .lst ds) (ca := .lst p) hp rfl ⟨xs, upd_same, small1000' h2, rd.mono (by rw [foot_add]; exact Ext.snoc (Grow.upd hp _) hp)⟩
  exact k _ _ _ a b ⟨.lst p, by show (ι.cs ++ [_])[_]? = _; rw [r.len, List.getElem?_append_right (Nat.le_refl _)]; simp, rfl⟩
theorem append_ok {X : Cx} : MtR X "list.append" (fun x xs => PrR X.K .append (x :: xs)) := by
  intro pins s σ H x xs v us Q I rx rs h
  obtain ⟨ι, st, pvs, pv, st', r, rv, e, k⟩ := h
  simp only [primF] at e
  split at e
  · rename_i n y
    cases rv with
    | cons h1 t =>
      cases t with
      | cons h2 t =>
        cases t
        split at e
        · rename_i ds hs
          rw [Option.ite_none_right_eq_some] at e
          obtain ⟨hl, e⟩ := e
          cases e
          obtain ⟨ca, hc, rfl⟩ := h1
          obtain ⟨cb, h3, h4⟩ := r.cells n _ hs
          rw [hc] at h3; cases h3
          cases ca <;> first | (exact h4.elim) | skip
          rename_i a
          obtain ⟨ys, e1, e2, e3⟩ := h4
          refine mt_append pins s σ H _ _ v us Q I rx rs ⟨a, ys, _, rfl, rfl, e1, by rw [e3.length]; exact hl, ?_⟩
          obtain ⟨a1, a2⟩ := r.change (o := .lst (ys ++ [_])) (c := .lst (ds ++ [y])) hc rfl fun ex => ⟨_, upd_same, by rw [List.length_append]; exact hl, (e3.mono ex).append (.cons (RepD.mono ex h2) .nil)⟩
          exact k _ _ ι a1 a2 .non
        · cases e
  · cases e
end Thr
/-! Does a text of the program say this term? -/
namespace Thr
open PySem

abbrev KSc := List (Str × NameKind)
structure Gs where
  cn : List Str
  fn : List (Str × Nat)
  bl : List Str
def isGl (sc : KSc) (x : Str) : Bool := sc.lookup x == some .globalImplicit
def isVis (sc : KSc) (x : Str) : Bool := sc.lookup x == some .local || sc.lookup x == some .cell || sc.lookup x == some .free
def isLoc (sc : KSc) (x : Str) : Bool := sc.lookup x == some .local || sc.lookup x == some .cell
def okName (x : Str) : Bool := !(x == ("__debug__" : Str)) && !(x == ("__classdict__" : Str)) && !(x == ("__name__" : Str))
def isBl (G : Gs) (sc : KSc) (x : Str) : Bool := isGl sc x && G.bl.contains x && okName x
def notStar : PySem.Expr → Bool
  | .Starred _ _ => false
  | _ => true
def baseOk : PySem.Expr → Bool
  | .Name _ _ => true
  | .Constant _ _ _ => true
  | _ => false
def notSlice : PySem.Expr → Bool
  | .Slice _ _ _ _ => false
  | _ => true
def notSet : PySem.Expr → Bool
  | .Set _ _ _ => false
  | _ => true
def notComp : PySem.Expr → Bool
  | .ListComp _ _ _ _ => false
  | .SetComp _ _ _ _ => false
  | .DictComp _ _ _ _ _ => false
  | _ => true
def chkEs (c : PySem.Expr → E → Bool) : List PySem.Expr → Es → Bool
  | [], .nil => true
  | e :: es, .cons a as => notStar e && c e a && chkEs c es as
  | _, _ => false
def chkConst : Const → PyData → Bool
  | .none, .none => true
  | .bool a, .bool b => a == b
  | .int a, .int b => decide (a = b)
  | .str a, .str b => decide (a = b) && decide (a.length ≤ sizeLine) && PyData.strOk a
  | _, _ => false
def binOp : Operator → Option Prim
  | .Add => some .add
  | .Sub => some .sub
  | .Mult => some .mul
  | .Mod => some .mod
  | .FloorDiv => some .fdiv
  | _ => none
def cmpOp : CmpOp → Option Prim
  | .Eq => some .eq
  | .NotEq => some .ne
  | .Lt => some .lt
  | .LtE => some .le
  | .Gt => some .gt
  | .GtE => some .ge
  | .In => some .isin
  | .NotIn => some .notin
  | _ => none
def bltOf : Prim → Option Str
  | .len => some "len"
  | .sumOf => some "sum"
  | .allOf => some "all"
  | .anyOf => some "any"
  | .tupOf => some "tuple"
  | .lstOf => some "list"
  | .intOf => some "int"
  | .strOf => some "str"
  | _ => none
def tyName : Ty → Str
  | .int => "int"
  | .bool => "bool"
  | .str => "str"
  | .tuple => "tuple"
  | .list => "list"
def metOf : Prim → Option Str
  | .append => some "append"
  | .join => some "join"
  | _ => none
def tgtOwn (N : List Str) : Tgt → List (Str × Nat)
  | .one i => [(N.getD i Str.empty, i)]
  | .many is => is.map fun i => (N.getD i Str.empty, i)
def chkName (N : List Str) (sc : KSc) (x : Str) (i : Nat) : Bool := decide (N[i]? = some x) && isLoc sc x
def chkNames (N : List Str) (sc : KSc) : List PySem.Expr → List Nat → Bool
  | [], [] => true
  | .Name x _ :: es, i :: is => chkName N sc x i && chkNames N sc es is
  | _, _ => false
def chkTgt (N : List Str) (sc : KSc) (tg : PySem.Expr) (t : Tgt) : Bool := match tg, t with
  | .Name x _, .one i => chkName N sc x i
  | .Tuple es _ _, .many is => chkNames N sc es is
  | _, _ => false
def isTup : PySem.Expr → Bool
  | .Tuple _ _ _ => true
  | _ => false
def chkIter (G : Gs) (sc : KSc) (c : PySem.Expr → E → Bool) (tg it : PySem.Expr) (k : IterK) (as : Es) : Bool := match k with
  | .seq => notSet it && notStar it && (match as with | .cons a .nil => c it a | _ => false)
  | .range => match it with
    | .Call (.Name x _) args [] _ => decide (x = "range") && isBl G sc "range" && chkEs c args as
    | _ => false
  | .enum => match it with
    | .Call (.Name x _) args [] _ => isTup tg && decide (x = "enumerate") && isBl G sc "enumerate" && chkEs c args as
    | _ => false
  | .zip => match it with
    | .Call (.Name x _) args [] _ => isTup tg && decide (x = "zip") && isBl G sc "zip" && chkEs c args as
    | _ => false
/-- a comprehension's own scope within sc -/
def chkBlk (N : List Str) (sc : KSc) (scope : Scope) (own : List (Str × Nat)) : Bool :=
  decide (scope.kind = .function) && (scope.names.all fun y => decide (scope.names.lookup y.1 = some y.2)) && (own.all fun p => decide (N[p.2]? = some p.1)) &&
  (scope.names.all fun y => !(y.2 == .free) || (sc.lookup y.1 == some .cell || sc.lookup y.1 == some .free)) &&
  (scope.names.all fun y => !(y.2 == .local || y.2 == .cell) || ((own.map (·.1)).contains y.1 || !N.contains y.1))
def asgOk (sc : KSc) (x : Str) (px : Pos) (e : PySem.Expr) : Bool := match e with
  | .ListComp _ _ scope cp => sc.lookup x == some .local && (px.line == cp.line) && !(scope.names.any fun (n, k) => n == x && (k == .local || k == .cell))
  | e => notComp e
section
variable (G : Gs) (N : List Str)
def chkE : Nat → KSc → PySem.Expr → E → Bool
  | 0, _, _, _ => false
  | n + 1, sc, e, ir => match e with
    | .Name x _ => match ir with
      | .var i => decide (N[i]? = some x) && isVis sc x && okName x
      | .glob i => decide (G.cn[i]? = some x) && isGl sc x && okName x
      | _ => false
    | .Constant c _ _ => match ir with
      | .lit d => chkConst c d
      | _ => false
    | .Tuple es _ _ => match ir with
      | .prim .tup as => chkEs (chkE n sc) es as
      | _ => false
    | .List es _ => match ir with
      | .prim .lst as => chkEs (chkE n sc) es as
      | .prim .boxL as => chkEs (chkE n sc) es as
      | _ => false
    | .BinOp a op b _ => match ir with
      | .prim p (.cons a' (.cons b' .nil)) => decide (binOp op = some p) && chkE n sc a a' && chkE n sc b b'
      | _ => false
    | .UnaryOp op a _ => match op, ir with
      | .Not, .not a' => chkE n sc a a'
      | .USub, .prim .neg (.cons a' .nil) => chkE n sc a a'
      | _, _ => false
    | .BoolOp op es _ => match op, ir with
      | .And, .and as => chkEs (chkE n sc) es as
      | .Or, .or as => chkEs (chkE n sc) es as
      | _, _ => false
    | .Compare a ops bs _ => match ops, bs with
      | [op], [b] => match ir with
        | .prim p (.cons a' (.cons b' .nil)) => decide (cmpOp op = some p) && notSet b && chkE n sc a a' && chkE n sc b b'
        | .prim p (.cons a' .nil) => (match op, b with
          | .Is, .Constant .none _ _ => decide (p = .isNone)
          | .IsNot, .Constant .none _ _ => decide (p = .notNone)
          | _, _ => false) && chkE n sc a a'
        | _ => false
      | [o1, o2], [b, c] => match ir with
        | .chain p q a' b' c' => decide (cmpOp o1 = some p) && decide (cmpOp o2 = some q) && notSet b && notSet c && chkE n sc a a' && chkE n sc b b' && chkE n sc c c'
        | _ => false
      | _, _ => false
    | .Call f args kws pos => kws.isEmpty && (match f with
      | .Name x _ => match ir with
        | .call i as => decide (G.fn.lookup x = some i) && isGl sc x && okName x && chkEs (chkE n sc) args as
        | .prim (.isinst t) (.cons a' .nil) => decide (x = "isinstance") && isBl G sc "isinstance" && isBl G sc (tyName t) && (match args with
          | [a, .Name y _] => decide (y = tyName t) && notStar a && chkE n sc a a'
          | _ => false)
        | .prim p (.cons a' .nil) => decide (bltOf p = some x) && isBl G sc x && chkEs (chkE n sc) args (.cons a' .nil)
        | _ => false
      | .Attribute o m apos => match ir with
        | .meth p o' (.cons a' .nil) => decide (metOf p = some m) && baseOk o && (apos.endLine == pos.line) && chkE n sc o o' && chkEs (chkE n sc) args (.cons a' .nil)
        | _ => false
      | _ => false)
    | .Subscript a s _ => match s with
      | .Slice lo hi st _ => st.isNone && (match lo, hi, ir with
        | none, none, .prim .slcN (.cons a' .nil) => chkE n sc a a'
        | some l, none, .prim .slcL (.cons a' (.cons l' .nil)) => chkE n sc a a' && chkE n sc l l'
        | none, some h, .prim .slcH (.cons a' (.cons h' .nil)) => chkE n sc a a' && chkE n sc h h'
        | some l, some h, .prim .slcLH (.cons a' (.cons l' (.cons h' .nil))) => chkE n sc a a' && chkE n sc l l' && chkE n sc h h'
        | _, _, _ => false)
      | s => match ir with
        | .prim .ix (.cons a' (.cons i' .nil)) => chkE n sc a a' && chkE n sc s i'
        | _ => false
    | .ListComp elt gens scope _ => match gens, ir with
      | [⟨tg, it, ifs, asy⟩], .comp t k as cond elt' => decide (asy = 0) && notSet it && chkIter G sc (chkE n sc) tg it k as && chkBlk N sc scope (tgtOwn N t) && chkTgt N scope.names tg t && (match ifs, cond with
          | [], none => true
          | [c], some c' => chkE n scope.names c c'
          | _, _ => false) && chkE n scope.names elt elt'
      | _, _ => false
    | _ => false
mutual
def chkS : Nat → KSc → Stmt → S → Bool
  | 0, _, _, _ => false
  | n + 1, sc, s, ir => match s with
    | .Expr e _ => match ir with
      | .expr e' => notComp e && chkE G N n sc e e'
      | _ => false
    | .Assign tgs e pos => match tgs with
      | [tg] => match tg with
        | .Name x px => match ir with
          | .set i e' => chkName N sc x i && chkE G N n sc e e' && asgOk sc x px e
          | _ => false
        | .Tuple es _ _ => match ir with
          | .setT is e' => chkNames N sc es is && notComp e && !isTup e && chkE G N n sc e e'
          | _ => false
        | _ => false
      | _ => false
    | .Return (some e) _ => match ir with
      | .ret e' => chkE G N n sc e e'
      | _ => false
    | .If c a b _ => match ir with
      | .ite c' a' b' => chkE G N n sc c c' && chkSs n sc a a' && chkSs n sc b b'
      | _ => false
    | .For tg it body orelse _ => match ir with
      | .for t k as body' => orelse.isEmpty && notSet it && chkIter G sc (chkE G N n sc) tg it k as && chkTgt N sc tg t && chkSs n sc body body'
      | _ => false
    | .While c body orelse _ => match ir with
      | .whl c' body' => orelse.isEmpty && chkE G N n sc c c' && chkSs n sc body body'
      | _ => false
    | .Break _ => match ir with
      | .brk => true
      | _ => false
    | _ => false
def chkSs : Nat → KSc → List Stmt → Ss → Bool
  | _, _, [], .nil => true
  | n + 1, sc, s :: ss, .cons a as => chkS n sc s a && chkSs n sc ss as
  | _, _, _, _ => false
end
end
def fnScopeB (N P : List Str) (sc : Scope) : Bool :=
  decide (sc.kind = .function) && !sc.isCoroutine && !sc.isGenerator && decide N.Nodup && decide (N.take P.length = P) && (P.all fun x => isLoc sc.names x) && (sc.names.all fun y => !(y.2 == .free))
/-- a def of the text is the function fn, its names N -/
def chkFn (G : Gs) (N : List Str) (P : List Str) (body : List Stmt) (sc : Scope) (fn : Fn) : Bool :=
  fnScopeB N P sc && decide (P.length = fn.np) && decide (N.length = fn.ns) && chkSs G N 200 sc.names body fn.body
end Thr
/-! What the terms reckon, the machine does: expressions. -/
namespace Thr
open PySem PySem.Spec PyProof.Rows L2

def spF (T : Tab) (n i : Nat) (K : PySem.W.Frag) : Sp := fun vs H Q _ => ∃ ι st pvs pv st', Rel K H ι st ∧ RepVs K H ι vs pvs ∧ callF T n i pvs st = some (pv, st') ∧
  ∀ v H', Rel K H' ι st' → Ev H ι H' ι → RepV K H' ι v pv → Q v H'
structure CtxX (G : Gs) (T : Tab) (n : Nat) (N : List Str) (X : Cx) : Prop where
  hN : X.N = N
  nd : N.Nodup
  calm : X.calm = true
  room : Room n X.A
  consts : ∀ (i : Nat) (x : Str) (d : PyData), G.cn[i]? = some x → T.consts[i]? = some d → ∃ v u, X.mg x = some u ∧ RelV v u ∧ ∀ H F, RepD X.K H F v d
  fns : ∀ (x : Str) (i : Nat), G.fn.lookup x = some i → ∃ f fd ps, X.mg x = some (.ref f) ∧ PySem.W.keepIn X.K (.ref f) = true ∧ Binds X.K fd ps [] ∧ FnOk X.prog X.w X.K X.mg X.base CX0 n f fd ps (spF T n i X.K)
  bl : ∀ (x : Str), G.bl.contains x = true → X.mg x = none
structure ScOk (sc : KSc) (X : Cx) : Prop where
  kind : X.env.scope.kind = .function
  keep : ∀ x k, k ≠ NameKind.free → sc.lookup x = some k → X.env.scope.names.lookup x = some k
  free : ∀ x, sc.lookup x = some .free → X.env.scope.names.lookup x = some .free ∨ X.env.scope.names.lookup x = some .cell
  fn : ∀ x, isLoc sc x = true → X.fn x = true ∨ X.env.scope.names.lookup x = some .local
def TEv (T : Tab) (O : Orc) (K : PySem.W.Frag) (ir : E) : TE := fun σ H Q => ∃ ρ st ι pv st', Rel K H ι st ∧ RepE K H ι σ ρ ∧ evE T O ir ρ st = some (pv, st') ∧
  ∀ v H' ι', Rel K H' ι' st' → Ev H ι H' ι' → RepV K H' ι' v pv → Q v H'
def TAv (T : Tab) (O : Orc) (K : PySem.W.Frag) (as : Es) : TA := fun σ H Q => ∃ ρ st ι pvs st', Rel K H ι st ∧ RepE K H ι σ ρ ∧ evEs T O as ρ st = some (pvs, st') ∧
  ∀ vs H' ι', Rel K H' ι' st' → Ev H ι H' ι' → RepVs K H' ι' vs pvs → Q vs H'
def TTv (T : Tab) (O : Orc) (K : PySem.W.Frag) (ir : E) : TT := fun σ H Q => ∃ ρ st ι b st', Rel K H ι st ∧ RepE K H ι σ ρ ∧ evE T O ir ρ st = some (.d (.bool b), st') ∧
  ∀ H' ι', Rel K H' ι' st' → Ev H ι H' ι' → Q b H'
theorem _root_.L2.PE.imp {X : Cx} {e : Expr} {t t' : TE} (h : PE X e t) (i : ∀ σ H Q, t' σ H Q → t σ H Q) : PE X e t' := ⟨fun pins s σ H Q I q => h.run pins s σ H Q I (i _ _ _ q)⟩
theorem _root_.L2.PT.imp {X : Cx} {e : Expr} {t t' : TT} (h : PT X e t) (i : ∀ σ H Q, t' σ H Q → t σ H Q) : PT X e t' := ⟨fun pins s σ H Q I q => h.run pins s σ H Q I (i _ _ _ q)⟩
theorem _root_.L2.PW.imp {X : Cx} {e : Expr} {t t' : TT} (h : PW X e t) (i : ∀ σ H Q, t' σ H Q → t σ H Q) : PW X e t' := ⟨fun wh pins s σ H Q I q => h.run wh pins s σ H Q I (i _ _ _ q)⟩
theorem _root_.L2.PA.imp {X : Cx} {e : List Expr} {t t' : TA} (h : PA X e t) (i : ∀ σ H Q, t' σ H Q → t σ H Q) : PA X e t' := ⟨fun p pins s σ H Q I q => h.run p pins s σ H Q I (i _ _ _ q)⟩
theorem _root_.L2.PI.imp {X : Cx} {tg e : Expr} {t t' : TI} (h : PI X tg e t) (i : ∀ σ H Q, t' σ H Q → t σ H Q) : PI X tg e t' := ⟨fun pins s σ H Q I q => h.run pins s σ H Q I (i _ _ _ q)⟩
theorem _root_.L2.PS.imp {X : Cx} {e : Stmt} {t t' : TS} (h : PS X e t) (i : ∀ D σ H, t' D σ H → t D σ H) : PS X e t' := ⟨fun pins s σ H Q I q => h.run pins s σ H Q I (i _ _ _ q)⟩
theorem _root_.L2.PSs.imp {X : Cx} {e : List Stmt} {t t' : TS} (h : PSs X e t) (i : ∀ D σ H, t' D σ H → t D σ H) : PSs X e t' := ⟨fun pins s σ H Q I q => h.run pins s σ H Q I (i _ _ _ q)⟩
theorem asB_inv {pv : PV} {b : Bool} (h : asB pv = some b) : pv = .d (.bool b) := by
  unfold asB at h
  split at h
  · cases h; rfl
  · cases h
section
variable {G : Gs} {T : Tab} {n : Nat} {N : List Str} {X : Cx} {sc : KSc}
theorem okName_inv {x : Str} (h : okName x = true) : (x == ("__debug__" : Str)) = false ∧ (x == ("__classdict__" : Str)) = false ∧ x ≠ ("__name__" : Str) := by
  unfold okName at h
  rw [Bool.and_eq_true, Bool.and_eq_true, Bool.not_eq_true', Bool.not_eq_true', Bool.not_eq_true'] at h
  exact ⟨h.1.1, h.1.2, by simpa using h.2⟩
theorem vis_of (S : ScOk sc X) {x : Str} (h : isVis sc x = true) : Vis X.env.scope x := by
  unfold isVis at h
  simp only [Bool.or_eq_true, beq_iff_eq] at h
  rcases h with (h | h) | h
  · exact .inl (S.keep _ _ (by decide) h)
  · exact .inr (.inl (S.keep _ _ (by decide) h))
  · rcases S.free _ h with h | h
    · exact .inr (.inr h)
    · exact .inr (.inl h)
theorem loc_of (S : ScOk sc X) {x : Str} (h : isLoc sc x = true) : Loc X.env.scope x := by
  unfold isLoc at h
  simp only [Bool.or_eq_true, beq_iff_eq] at h
  rcases h with h | h
  · exact .inl (S.keep _ _ (by decide) h)
  · exact .inr (S.keep _ _ (by decide) h)
theorem gl_of (S : ScOk sc X) {x : Str} (h : isGl sc x = true) : Gl X x := by
  unfold isGl at h
  rw [beq_iff_eq] at h
  exact S.keep _ _ (by decide) h
theorem bl_of (C : CtxX G T n N X) (S : ScOk sc X) {x : Str} (h : isBl G sc x = true) : Gl X x ∧ X.mg x = none ∧ (x == ("__debug__" : Str)) = false ∧ x ≠ ("__name__" : Str) := by
  unfold isBl at h
  rw [Bool.and_eq_true, Bool.and_eq_true] at h
  obtain ⟨a, b, c⟩ := okName_inv h.2
  exact ⟨gl_of S h.1.1, C.bl _ h.1.2, a, c⟩
/-! ### leaves -/
theorem sE_var (C : CtxX G T n N X) (S : ScOk sc X) {x : Str} {pos : Pos} {i : Nat} (h : (decide (N[i]? = some x) && isVis sc x && okName x) = true) : PE X (.Name x pos) (TEv T (callF T n) X.K (.var i)) := by
  rw [Bool.and_eq_true, Bool.and_eq_true] at h
  obtain ⟨a, b, c⟩ := okName_inv h.2
  refine (pe_var (i := i) (by rw [C.hN]; exact of_decide_eq_true h.1.1) (vis_of S h.1.2) a b).imp fun σ H Q q => ?_
  obtain ⟨ρ, st, ι, pv, st', r, re, e, k⟩ := q
  simp only [evE, Option.map_eq_some_iff, Prod.mk.injEq] at e
  obtain ⟨pv', e, rfl, rfl⟩ := e
  rw [Option.join_eq_some_iff] at e
  obtain ⟨v, hv, rv⟩ := re.at_ i _ e
  exact ⟨v, hv, k v H ι r (.refl _ _) rv⟩
theorem sE_glob (C : CtxX G T n N X) (S : ScOk sc X) {x : Str} {pos : Pos} {i : Nat} (h : (decide (G.cn[i]? = some x) && isGl sc x && okName x) = true) : PE X (.Name x pos) (TEv T (callF T n) X.K (.glob i)) := by
  rw [Bool.and_eq_true, Bool.and_eq_true] at h
  obtain ⟨a, b, c⟩ := okName_inv h.2
  cases hd : T.consts[i]? with
  | none => exact ⟨fun pins s σ H Q I q => by
      obtain ⟨ρ, st, ι, pv, st', r, re, e, k⟩ := q
      simp [evE, hd] at e⟩
  | some d =>
    obtain ⟨v, u, hm, hr, hrep⟩ := C.consts i x d (of_decide_eq_true h.1.1) hd
    refine (pe_glob (gl_of S h.1.2) hm hr a).imp fun σ H Q q => ?_
    obtain ⟨ρ, st, ι, pv, st', r, re, e, k⟩ := q
    simp only [evE, hd, Option.map_some, Option.some.injEq, Prod.mk.injEq] at e
    obtain ⟨rfl, rfl⟩ := e
    exact k v H ι r (.refl _ _) (hrep _ _)
theorem sE_const {c : Const} {k : Nat} {pos : Pos} {d : PyData} (h : chkConst c d = true) : PE X (.Constant c k pos) (TEv T (callF T n) X.K (.lit d)) := by
  have fin : ∀ {v : V}, (∀ H F, RepD X.K H F v d) → ∀ σ H Q, TEv T (callF T n) X.K (.lit d) σ H Q → tC v σ H Q := fun {v} hv σ H Q q => by
    obtain ⟨ρ, st, ι, pv, st', r, re, e, k⟩ := q
    simp only [evE, Option.some.injEq, Prod.mk.injEq] at e
    obtain ⟨rfl, rfl⟩ := e
    exact k v H ι r (.refl _ _) (hv _ _)
  cases c <;> cases d <;> first | (exact absurd h Bool.false_ne_true) | skip
  · exact pe_non.imp (fin fun _ _ => .non)
  · rename_i a b
    have e : a = b := by simpa [chkConst] using h
    subst e
    exact pe_bl.imp (fin fun _ _ => .bl _)
  · rename_i a b
    have e : a = b := of_decide_eq_true h
    subst e
    exact pe_int.imp (fin fun _ _ => .int _)
  · rename_i a b
    have h' : (decide (a = b) && decide (a.length ≤ sizeLine) && PyData.strOk a) = true := h
    rw [Bool.and_eq_true, Bool.and_eq_true] at h'
    have e : a = b := of_decide_eq_true h'.1.1
    subst e
    exact pe_str.imp (fin fun _ _ => .str _ (of_decide_eq_true h'.1.2) h'.2)
/-! ### argument lists -/
theorem star_of {e : Expr} (h : notStar e = true) (es : List Expr) (env : PySem.Env) : starEach (e :: es) env = (false, eval e env) :: starEach es env := by
  cases e <;> first | rfl | (exact absurd h Bool.false_ne_true)
theorem PAe (X : Cx) (c : Expr → E → Bool) : ∀ {es : List Expr} {as : Es}, (∀ e ir, c e ir = true → PE X e (TEv T (callF T n) X.K ir)) → chkEs c es as = true → PA X es (TAv T (callF T n) X.K as) ∧ (∀ env, ∀ y ∈ starEach es env, y.1 = false)
  | [], .nil, _, _ => ⟨pa_nil.imp fun σ H Q q => by
      obtain ⟨ρ, st, ι, pvs, st', r, re, e, k⟩ := q
      simp only [evEs, Option.some.injEq, Prod.mk.injEq] at e
      obtain ⟨rfl, rfl⟩ := e
      exact k [] H ι r (.refl _ _) .nil, fun env y hy => by cases hy⟩
  | e :: es, .cons a as, hc, h => by
    have h' : (notStar e && c e a && chkEs c es as) = true := h
    rw [Bool.and_eq_true, Bool.and_eq_true] at h'
    obtain ⟨ih, ih2⟩ := PAe X c hc h'.2
    refine ⟨(pa_cons (hc e a h'.1.2) ih (star_of h'.1.1 es X.env)).imp fun σ H Q q => ?_, fun env y hy => ?_⟩
    · obtain ⟨ρ, st, ι, pvs, st', r, re, e, k⟩ := q
      simp only [evEs, Option.bind_eq_some_iff, Option.map_eq_some_iff, Prod.mk.injEq] at e
      obtain ⟨⟨pv, st1⟩, e1, ⟨⟨pvs2, st2⟩, e2, rfl, rfl⟩⟩ := e
      refine ⟨ρ, st, ι, pv, st1, r, re, e1, fun v H1 ι1 r1 ev1 rv1 => ?_⟩
      refine ⟨ρ, st1, ι1, pvs2, st2, r1, re.mono ev1, e2, fun vs H2 ι2 r2 ev2 rv2 => ?_⟩
      exact k (v :: vs) H2 ι2 r2 (ev1.trans ev2) (.cons (rv1.mono ev2) rv2)
    · rw [star_of h'.1.1] at hy
      rcases List.mem_cons.mp hy with rfl | hy
      · rfl
      · exact ih2 env y hy
  | [], .cons _ _, _, h => absurd h Bool.false_ne_true
  | _ :: _, .nil, _, h => absurd h Bool.false_ne_true
theorem plain_of {es : List Expr} {pos : Pos} {env : PySem.Env} (h : ∀ y ∈ starEach es env, y.1 = false) : (backTo pos (starEach es env)).any (·.1) = false := by
  rw [List.any_eq_false]
  intro y hy
  unfold backTo at hy
  obtain ⟨z, hz, rfl⟩ := List.mem_map.mp hy
  have := h z hz
  obtain ⟨a, b⟩ := z
  simp only at this
  subst this
  simp
/-! ### written tuples, lists -/
theorem prim_unfold {p : Prim} {as : Es} {σ : L2.St} {H : Hp} {Q : VK} (h : TEv T (callF T n) X.K (.prim p as) σ H Q) : TAv T (callF T n) X.K as σ H fun vs H1 => PrR X.K p vs H1 Q := by
  obtain ⟨ρ, st, ι, pv, st', r, re, e, k⟩ := h
  simp only [evE, Option.bind_eq_some_iff] at e
  obtain ⟨⟨pvs, st1⟩, e1, e2⟩ := e
  exact ⟨ρ, st, ι, pvs, st1, r, re, e1, fun vs H1 ι1 r1 ev1 rv1 => ⟨ι1, st1, pvs, pv, st', r1, rv1, e2, fun v H2 ι2 r2 ev2 rv2 => k v H2 ι2 r2 (ev1.trans ev2) rv2⟩⟩
theorem sE_tup {es : List Expr} {as : Es} {k : Nat} {pos : Pos} (h : PA X es (TAv T (callF T n) X.K as)) : PE X (.Tuple es k pos) (TEv T (callF T n) X.K (.prim .tup as)) :=
  (pe_tup h).imp fun σ H Q q => by
    obtain ⟨ρ, st, ι, pvs, st', r, re, e, k⟩ := prim_unfold q
    exact ⟨ρ, st, ι, pvs, st', r, re, e, fun vs H1 ι1 r1 ev1 rv1 => tup_ok (k vs H1 ι1 r1 ev1 rv1)⟩
theorem sE_lst {es : List Expr} {as : Es} {pos : Pos} (h : PA X es (TAv T (callF T n) X.K as)) : PE X (.List es pos) (TEv T (callF T n) X.K (.prim .lst as)) :=
  (pe_lst h).imp fun σ H Q q => by
    obtain ⟨ρ, st, ι, pvs, st', r, re, e, k⟩ := prim_unfold q
    exact ⟨ρ, st, ι, pvs, st', r, re, e, fun vs H1 ι1 r1 ev1 rv1 => lst_ok (k vs H1 ι1 r1 ev1 rv1)⟩
theorem sE_box {es : List Expr} {as : Es} {pos : Pos} (h : PA X es (TAv T (callF T n) X.K as)) : PE X (.List es pos) (TEv T (callF T n) X.K (.prim .boxL as)) :=
  (pe_lst h).imp fun σ H Q q => by
    obtain ⟨ρ, st, ι, pvs, st', r, re, e, k⟩ := prim_unfold q
    exact ⟨ρ, st, ι, pvs, st', r, re, e, fun vs H1 ι1 r1 ev1 rv1 => box_ok (k vs H1 ι1 r1 ev1 rv1)⟩
/-! ### one and two -/
theorem ea1 {a : E} {σ : L2.St} {H : Hp} {Q : List V → Hp → Prop} (h : TAv T (callF T n) X.K (.cons a .nil) σ H Q) : TEv T (callF T n) X.K a σ H fun v H1 => Q [v] H1 := by
  obtain ⟨ρ, st, ι, pvs, st', r, re, e, k⟩ := h
  simp only [evEs, Option.bind_eq_some_iff, Option.map_eq_some_iff, Prod.mk.injEq, Option.some.injEq] at e
  obtain ⟨⟨pv, st1⟩, e1, ⟨⟨pvs2, st2⟩, ⟨rfl, rfl⟩, rfl, rfl⟩⟩ := e
  exact ⟨ρ, st, ι, pv, st1, r, re, e1, fun v H1 ι1 r1 ev1 rv1 => k [v] H1 ι1 r1 ev1 (.cons rv1 .nil)⟩
theorem eaC {a : E} {as : Es} {σ : L2.St} {H : Hp} {Q : List V → Hp → Prop} (h : TAv T (callF T n) X.K (.cons a as) σ H Q) :
    TEv T (callF T n) X.K a σ H fun v H1 => TAv T (callF T n) X.K as σ H1 fun vs H2 => Q (v :: vs) H2 := by
  obtain ⟨ρ, st, ι, pvs, st', r, re, e, k⟩ := h
  simp only [evEs, Option.bind_eq_some_iff, Option.map_eq_some_iff, Prod.mk.injEq] at e
  obtain ⟨⟨pv, st1⟩, e1, ⟨⟨pvs2, st2⟩, e2, rfl, rfl⟩⟩ := e
  refine ⟨ρ, st, ι, pv, st1, r, re, e1, fun v H1 ι1 r1 ev1 rv1 => ?_⟩
  exact ⟨ρ, st1, ι1, pvs2, st2, r1, re.mono ev1, e2, fun vs H2 ι2 r2 ev2 rv2 => k (v :: vs) H2 ι2 r2 (ev1.trans ev2) (.cons (rv1.mono ev2) rv2)⟩
theorem TEv.imp {a : E} {σ : L2.St} {H : Hp} {Q Q' : VK} (h : TEv T (callF T n) X.K a σ H Q) (i : ∀ v H, Q v H → Q' v H) : TEv T (callF T n) X.K a σ H Q' := by
  obtain ⟨ρ, st, ι, pv, st', r, re, e, k⟩ := h
  exact ⟨ρ, st, ι, pv, st', r, re, e, fun v H1 ι1 r1 ev1 rv1 => i _ _ (k v H1 ι1 r1 ev1 rv1)⟩
theorem TAv.imp {a : Es} {σ : L2.St} {H : Hp} {Q Q' : List V → Hp → Prop} (h : TAv T (callF T n) X.K a σ H Q) (i : ∀ v H, Q v H → Q' v H) : TAv T (callF T n) X.K a σ H Q' := by
  obtain ⟨ρ, st, ι, pv, st', r, re, e, k⟩ := h
  exact ⟨ρ, st, ι, pv, st', r, re, e, fun v H1 ι1 r1 ev1 rv1 => i _ _ (k v H1 ι1 r1 ev1 rv1)⟩
theorem ea2 {a b : E} {σ : L2.St} {H : Hp} {Q : List V → Hp → Prop} (h : TAv T (callF T n) X.K (.cons a (.cons b .nil)) σ H Q) :
    TEv T (callF T n) X.K a σ H fun v H1 => TEv T (callF T n) X.K b σ H1 fun u H2 => Q [v, u] H2 := (eaC h).imp fun _ _ q => ea1 q
theorem sE_bin {a b : Expr} {a' b' : E} {op : Operator} {p : Prim} {pos : Pos} (hop : OpR X (binaryOp op) fun x y => PrR X.K p [x, y]) (ha : PE X a (TEv T (callF T n) X.K a')) (hb : PE X b (TEv T (callF T n) X.K b')) :
    PE X (.BinOp a op b pos) (TEv T (callF T n) X.K (.prim p (.cons a' (.cons b' .nil)))) := (pe_op hop ha hb).imp fun σ H Q q => ea2 (prim_unfold q)
theorem binOp_ok {op : Operator} {p : Prim} (h : binOp op = some p) : OpR X (binaryOp op) fun x y => PrR X.K p [x, y] := by
  cases op <;> first | (cases h; done) | (simp only [binOp, Option.some.injEq] at h; subst h)
  · exact OpR.imp prim_add fun _ _ _ _ q => q.rd rfl
  · exact OpR.imp prim_sub fun _ _ _ _ q => q.rd rfl
  · exact OpR.imp prim_mul fun _ _ _ _ q => q.rd rfl
  · exact OpR.imp prim_mod fun _ _ _ _ q => q.rd rfl
  · exact OpR.imp prim_fdiv fun _ _ _ _ q => q.rd rfl
theorem cmpOp_ok (hu : X.A.units + 64 < cLine) {op : CmpOp} {p : Prim} (h : cmpOp op = some p) : OpR X (compareOp op) fun x y => PrR X.K p [x, y] := by
  cases op <;> first | (cases h; done) | (simp only [cmpOp, Option.some.injEq] at h; subst h)
  · exact OpR.imp (prim_eq hu) fun _ _ _ _ q => q.rd rfl
  · exact OpR.imp (prim_ne hu) fun _ _ _ _ q => q.rd rfl
  · exact OpR.imp prim_lt fun _ _ _ _ q => q.rd rfl
  · exact OpR.imp prim_le fun _ _ _ _ q => q.rd rfl
  · exact OpR.imp prim_gt fun _ _ _ _ q => q.rd rfl
  · exact OpR.imp prim_ge fun _ _ _ _ q => q.rd rfl
  · exact OpR.imp prim_in fun _ _ _ _ q => q.rd rfl
  · exact OpR.imp prim_notin fun _ _ _ _ q => q.rd rfl
theorem mark_of {op : CmpOp} {b : Expr} (h : notSet b = true) : behindInMarks op b = false := by
  cases b <;> first | rfl | (exact absurd h Bool.false_ne_true)
theorem rep_bl {K : PySem.W.Frag} {H : Hp} {ι : Wld} {v : V} {b : Bool} (h : RepV K H ι v (.d (.bool b))) : v = .bl b := by
  cases (show RepD K H (foot ι) v (.bool b) from h); rfl
/-- a value's test, from its value -/
theorem tt_of {a : E} {σ : L2.St} {H : Hp} {Q : Bool → Hp → Prop} (h : TTv T (callF T n) X.K a σ H Q) : TEv T (callF T n) X.K a σ H fun x H1 => ∃ c, x = .bl c ∧ Q c H1 := by
  obtain ⟨ρ, st, ι, b, st', r, re, e, k⟩ := h
  exact ⟨ρ, st, ι, _, st', r, re, e, fun v H1 ι1 r1 ev1 rv1 => ⟨b, rep_bl rv1, k H1 ι1 r1 ev1⟩⟩
theorem sE_cmp {a b : Expr} {a' b' : E} {op : CmpOp} {p : Prim} {pos : Pos} (hop : OpR X (compareOp op) fun x y => PrR X.K p [x, y]) (hm : behindInMarks op b = false) (ha : PE X a (TEv T (callF T n) X.K a')) (hb : PE X b (TEv T (callF T n) X.K b')) :
    PE X (.Compare a [op] [b] pos) (TEv T (callF T n) X.K (.prim p (.cons a' (.cons b' .nil)))) ∧ PT X (.Compare a [op] [b] pos) (TTv T (callF T n) X.K (.prim p (.cons a' (.cons b' .nil)))) :=
  ⟨(pe_cmpR hop ha hb hm).imp fun σ H Q q => ea2 (prim_unfold q), (pt_cmpR hop ha hb hm).imp fun σ H Q q => ea2 (prim_unfold (tt_of q))⟩
/-! ### not, and, or -/
theorem sE_not {a : Expr} {a' : E} {pos : Pos} (ha : PE X a (TEv T (callF T n) X.K a')) (ta : PT X a (TTv T (callF T n) X.K a')) :
    PE X (.UnaryOp .Not a pos) (TEv T (callF T n) X.K (.not a')) ∧ PT X (.UnaryOp .Not a pos) (TTv T (callF T n) X.K (.not a')) := by
  refine ⟨(pe_not ha).imp fun σ H Q q => ?_, (pt_not ta).imp fun σ H Q q => ?_⟩
  · obtain ⟨ρ, st, ι, pv, st', r, re, e, k⟩ := q
    simp only [evE, Option.bind_eq_some_iff, Option.map_eq_some_iff, Prod.mk.injEq] at e
    obtain ⟨⟨pv1, st1⟩, e1, b, e2, rfl, rfl⟩ := e
    obtain rfl := asB_inv e2
    exact ⟨ρ, st, ι, _, st1, r, re, e1, fun v H1 ι1 r1 ev1 rv1 => ⟨b, rep_bl rv1, k _ H1 ι1 r1 ev1 (.bl _)⟩⟩
  · obtain ⟨ρ, st, ι, c, st', r, re, e, k⟩ := q
    simp only [evE, Option.bind_eq_some_iff, Option.map_eq_some_iff, Prod.mk.injEq, PV.d.injEq, PyData.bool.injEq] at e
    obtain ⟨⟨pv1, st1⟩, e1, b, e2, rfl, rfl⟩ := e
    obtain rfl := asB_inv e2
    exact ⟨ρ, st, ι, b, st1, r, re, e1, fun H1 ι1 r1 ev1 => k H1 ι1 r1 ev1⟩
theorem evAnd_cons {a : E} {b : E} {as : Es} {ρ : Slots} {st : Store} : evAnd T (callF T n) (.cons a (.cons b as)) ρ st = (evE T (callF T n) a ρ st).bind fun r => (asB r.1).bind fun t => if t then evAnd T (callF T n) (.cons b as) ρ r.2 else some (.d (.bool false), r.2) := by
  rw [evAnd]
  intro h
  cases h
theorem evOr_cons {a : E} {b : E} {as : Es} {ρ : Slots} {st : Store} : evOr T (callF T n) (.cons a (.cons b as)) ρ st = (evE T (callF T n) a ρ st).bind fun r => (asB r.1).bind fun t => if t then some (.d (.bool true), r.2) else evOr T (callF T n) (.cons b as) ρ r.2 := by
  rw [evOr]
  intro h
  cases h
theorem sE_and (c : Expr → E → Bool) (hc : ∀ e ir, c e ir = true → PE X e (TEv T (callF T n) X.K ir) ∧ PT X e (TTv T (callF T n) X.K ir)) {pos : Pos} : ∀ {es : List Expr} {as : Es}, chkEs c es as = true →
    es ≠ [] → PE X (.BoolOp .And es pos) (TEv T (callF T n) X.K (.and as)) ∧ PW X (.BoolOp .And es pos) (TTv T (callF T n) X.K (.and as))
  | [], _, _, hne => absurd rfl hne
  | [e], .cons a .nil, h, _ => by
    have h' : (notStar e && c e a && chkEs c [] .nil) = true := h
    rw [Bool.and_eq_true, Bool.and_eq_true] at h'
    obtain ⟨p1, p2⟩ := hc e a h'.1.2
    refine ⟨(pe_one p1).imp fun σ H Q q => ?_, (pw_and1 p2).imp fun σ H Q q => ?_⟩
    · obtain ⟨ρ, st, ι, pv, st', r, re, e, k⟩ := q
      simp only [evE, evAnd, Option.bind_eq_some_iff, Option.map_eq_some_iff, Prod.mk.injEq] at e
      obtain ⟨⟨pv1, st1⟩, e1, b, e2, rfl, rfl⟩ := e
      obtain rfl := asB_inv e2
      exact ⟨ρ, st, ι, _, st1, r, re, e1, k⟩
    · obtain ⟨ρ, st, ι, t, st', r, re, e, k⟩ := q
      simp only [evE, evAnd, Option.bind_eq_some_iff, Option.map_eq_some_iff, Prod.mk.injEq, PV.d.injEq, PyData.bool.injEq] at e
      obtain ⟨⟨pv1, st1⟩, e1, b, e2, rfl, rfl⟩ := e
      obtain rfl := asB_inv e2
      exact ⟨ρ, st, ι, _, st1, r, re, e1, k⟩
  | e :: f :: es, .cons a (.cons b as), h, _ => by
    have h' : (notStar e && c e a && chkEs c (f :: es) (.cons b as)) = true := h
    rw [Bool.and_eq_true, Bool.and_eq_true] at h'
    obtain ⟨p1, p2⟩ := hc e a h'.1.2
    obtain ⟨q1, q2⟩ := sE_and c hc (pos := pos) h'.2 (by simp)
    refine ⟨(pe_and p1 q1).imp fun σ H Q q => ?_, (pw_and p2 q2).imp fun σ H Q q => ?_⟩
    · obtain ⟨ρ, st, ι, pv, st', r, re, e, k⟩ := q
      simp only [evE, evAnd_cons, Option.bind_eq_some_iff] at e
      obtain ⟨⟨pv1, st1⟩, e1, t, e2, e3⟩ := e
      obtain rfl := asB_inv e2
      refine ⟨ρ, st, ι, _, st1, r, re, e1, fun v H1 ι1 r1 ev1 rv1 => ⟨t, rep_bl rv1, ?_⟩⟩
      cases t with
      | true => exact ⟨ρ, st1, ι1, pv, st', r1, re.mono ev1, by simpa [evE] using e3, fun v H2 ι2 r2 ev2 rv2 => k v H2 ι2 r2 (ev1.trans ev2) rv2⟩
      | false =>
        simp only [Bool.false_eq_true, if_false, Option.some.injEq, Prod.mk.injEq] at e3 ⊢
        obtain ⟨rfl, rfl⟩ := e3
        exact k _ H1 ι1 r1 ev1 (.bl _)
    · obtain ⟨ρ, st, ι, w, st', r, re, e, k⟩ := q
      simp only [evE, evAnd_cons, Option.bind_eq_some_iff] at e
      obtain ⟨⟨pv1, st1⟩, e1, t, e2, e3⟩ := e
      obtain rfl := asB_inv e2
      refine ⟨ρ, st, ι, t, st1, r, re, e1, fun H1 ι1 r1 ev1 => ?_⟩
      cases t with
      | true => exact ⟨ρ, st1, ι1, w, st', r1, re.mono ev1, by simpa [evE] using e3, fun H2 ι2 r2 ev2 => k H2 ι2 r2 (ev1.trans ev2)⟩
      | false =>
        simp only [Bool.false_eq_true, if_false, Option.some.injEq, Prod.mk.injEq, PV.d.injEq, PyData.bool.injEq] at e3 ⊢
        obtain ⟨rfl, rfl⟩ := e3
        exact k H1 ι1 r1 ev1
  | [e], .nil, h, _ => absurd h Bool.false_ne_true
  | [e], .cons _ (.cons _ _), h, _ => by simp [chkEs] at h
  | _ :: _ :: _, .nil, h, _ => absurd h Bool.false_ne_true
  | _ :: _ :: _, .cons _ .nil, h, _ => by simp [chkEs] at h
theorem sE_or (c : Expr → E → Bool) (hc : ∀ e ir, c e ir = true → PE X e (TEv T (callF T n) X.K ir) ∧ PT X e (TTv T (callF T n) X.K ir)) {pos : Pos} : ∀ {es : List Expr} {as : Es}, chkEs c es as = true →
    es ≠ [] → PE X (.BoolOp .Or es pos) (TEv T (callF T n) X.K (.or as)) ∧ PW X (.BoolOp .Or es pos) (TTv T (callF T n) X.K (.or as))
  | [], _, _, hne => absurd rfl hne
  | [e], .cons a .nil, h, _ => by
    have h' : (notStar e && c e a && chkEs c [] .nil) = true := h
    rw [Bool.and_eq_true, Bool.and_eq_true] at h'
    obtain ⟨p1, p2⟩ := hc e a h'.1.2
    refine ⟨(pe_one p1).imp fun σ H Q q => ?_, (pw_or1 p2).imp fun σ H Q q => ?_⟩
    · obtain ⟨ρ, st, ι, pv, st', r, re, e, k⟩ := q
      simp only [evE, evOr, Option.bind_eq_some_iff, Option.map_eq_some_iff, Prod.mk.injEq] at e
      obtain ⟨⟨pv1, st1⟩, e1, b, e2, rfl, rfl⟩ := e
      obtain rfl := asB_inv e2
      exact ⟨ρ, st, ι, _, st1, r, re, e1, k⟩
    · obtain ⟨ρ, st, ι, t, st', r, re, e, k⟩ := q
      simp only [evE, evOr, Option.bind_eq_some_iff, Option.map_eq_some_iff, Prod.mk.injEq, PV.d.injEq, PyData.bool.injEq] at e
      obtain ⟨⟨pv1, st1⟩, e1, b, e2, rfl, rfl⟩ := e
      obtain rfl := asB_inv e2
      exact ⟨ρ, st, ι, _, st1, r, re, e1, k⟩
  | e :: f :: es, .cons a (.cons b as), h, _ => by
    have h' : (notStar e && c e a && chkEs c (f :: es) (.cons b as)) = true := h
    rw [Bool.and_eq_true, Bool.and_eq_true] at h'
    obtain ⟨p1, p2⟩ := hc e a h'.1.2
    obtain ⟨q1, q2⟩ := sE_or c hc (pos := pos) h'.2 (by simp)
    refine ⟨(pe_or p1 q1).imp fun σ H Q q => ?_, (pw_or p2 q2).imp fun σ H Q q => ?_⟩
    · obtain ⟨ρ, st, ι, pv, st', r, re, e, k⟩ := q
      simp only [evE, evOr_cons, Option.bind_eq_some_iff] at e
      obtain ⟨⟨pv1, st1⟩, e1, t, e2, e3⟩ := e
      obtain rfl := asB_inv e2
      refine ⟨ρ, st, ι, _, st1, r, re, e1, fun v H1 ι1 r1 ev1 rv1 => ⟨t, rep_bl rv1, ?_⟩⟩
      cases t with
      | false => exact ⟨ρ, st1, ι1, pv, st', r1, re.mono ev1, by simpa [evE] using e3, fun v H2 ι2 r2 ev2 rv2 => k v H2 ι2 r2 (ev1.trans ev2) rv2⟩
      | true =>
        simp only [if_true, Option.some.injEq, Prod.mk.injEq] at e3 ⊢
        obtain ⟨rfl, rfl⟩ := e3
        exact k _ H1 ι1 r1 ev1 (.bl _)
    · obtain ⟨ρ, st, ι, w, st', r, re, e, k⟩ := q
      simp only [evE, evOr_cons, Option.bind_eq_some_iff] at e
      obtain ⟨⟨pv1, st1⟩, e1, t, e2, e3⟩ := e
      obtain rfl := asB_inv e2
      refine ⟨ρ, st, ι, t, st1, r, re, e1, fun H1 ι1 r1 ev1 => ?_⟩
      cases t with
      | false => exact ⟨ρ, st1, ι1, w, st', r1, re.mono ev1, by simpa [evE] using e3, fun H2 ι2 r2 ev2 => k H2 ι2 r2 (ev1.trans ev2)⟩
      | true =>
        simp only [if_true, Option.some.injEq, Prod.mk.injEq, PV.d.injEq, PyData.bool.injEq] at e3 ⊢
        obtain ⟨rfl, rfl⟩ := e3
        exact k H1 ι1 r1 ev1
  | [e], .nil, h, _ => absurd h Bool.false_ne_true
  | [e], .cons _ (.cons _ _), h, _ => by simp [chkEs] at h
  | _ :: _ :: _, .nil, h, _ => absurd h Bool.false_ne_true
  | _ :: _ :: _, .cons _ .nil, h, _ => by simp [chkEs] at h
end
end Thr
/-! enumerate(tuple). -/
namespace Thr
open PySem PySem.Spec PyProof.Rows L2
open Sem (wp)
open AutoSeq1 (wpAny_loadPart')

theorem meets_enumerate_newT (l : Addr) (o : Obj) (items : Array Value) (n : Nat) (hcl : o.cls = .type "tuple") (hdt : o.data = .seq items n) :
    Meets (Builtin.«enumerate.__new__» ⟨[.type "enumerate", .ref l], []⟩) (fun _ R s => s.heap.get? l = some o ∧
      R (.ok (.ret (.ref (s.heap.push { cls := .type "tuple_iterator", data := .fields #[.ref l, .int 0 0] }).objs.size)))
        { s with heap := (s.heap.push { cls := .type "tuple_iterator", data := .fields #[.ref l, .int 0 0] }).push { cls := .type "enumerate", data := .fields #[.none, .bool false, .ref s.heap.objs.size, rawInt 0, .none, .none] } }) :=
  .of_wp fun prog w A R s h => by
    obtain ⟨hp, g, d, tk, os⟩ := s; obtain ⟨hl, h⟩ := h
    have hsub := sub_enumerate
    have hL : Heap.IsTuple (Shared.heap ⟨hp, g, d, tk, os⟩) l items := ⟨_, hl, hcl, n, hdt⟩
    wp_walk using wpAny_loadPart' hl, wpAny_pyIter_tuple hL
    refine wpAny_stack_any fun st => wpAny_pure ?_
    split
    · rename_i c _ _ _ _ _
      cases (c == Value.type "enumerate")
      · wp_walk using wpAny_loadPart' hl, wpAny_pyIter_tuple hL
        exact ⟨_, rfl, h⟩
      · wp_walk using wpAny_loadPart' hl, wpAny_pyIter_tuple hL
        exact ⟨_, rfl, h⟩
    · wp_walk using wpAny_loadPart' hl, wpAny_pyIter_tuple hL
      exact ⟨_, rfl, h⟩
section
variable {prog : Program} {w : World} {A : Around} {E : Value → Shared → Prop} {s : Shared}
theorem call_enumerate_tuple {l : Addr} {items : Array Value} {Q : Value → Shared → Prop} (hL : s.heap.IsTuple l items)
    (h : ∀ h', IsEnum h' (s.heap.objs.size + 1) s.heap.objs.size 0 .none → h'.IsTupleIter s.heap.objs.size l 0 → h'.objs.size = s.heap.objs.size + 2 →
      (∀ b o, s.heap.get? b = some o → h'.get? b = some o) → Q (.ref (s.heap.objs.size + 1)) { s with heap := h' }) :
    wpAny (model prog w) A (call (.type "enumerate") [.ref l]) Q E s := by
  obtain ⟨o, hl, hc, n, hd⟩ := hL
  refine callType_new F.called_enumerate (by decide) (F.typeCall_enumerate_1 _) (F.newCall_enumerate_1 _) (fun obj => F.args_object_init_2 obj _) F.entry_enumerate_new
    (meets_enumerate_newT l o items n hc hd) ⟨hl, ?_⟩
  have hz : (s.heap.push { cls := .type "tuple_iterator", data := .fields #[.ref l, .int 0 0] }).objs.size = s.heap.objs.size + 1 := Heap.size_push ..
  show _ ∧ _
  rw [hz]
  have he : IsEnum ((s.heap.push { cls := .type "tuple_iterator", data := .fields #[.ref l, .int 0 0] }).push
      { cls := .type "enumerate", data := .fields #[.none, .bool false, .ref s.heap.objs.size, rawInt 0, .none, .none] }) (s.heap.objs.size + 1) s.heap.objs.size 0 .none := by
    have := Heap.get?_push_size (s.heap.push { cls := .type "tuple_iterator", data := .fields #[.ref l, .int 0 0] })
      (o := { cls := .type "enumerate", data := .fields #[.none, .bool false, .ref s.heap.objs.size, rawInt 0, .none, .none] }) rfl
    rw [hz] at this; exact this
  refine ⟨⟨_, he, rfl⟩, h _ he ⟨_, Heap.get?_push_of_some _ (Heap.get?_push_size _ rfl), rfl, rfl⟩ (by rw [Heap.size_push, hz]) fun b o x => Heap.get?_push_of_some _ (Heap.get?_push_of_some _ x)⟩
end
/-- the tuple at a, each item in a new pair -/
def IteT (K : PySem.W.Frag) (a : Addr) : It :=
  ⟨fun i H => ∃ (xs : List V) (x : V), SqT K H a xs ∧ xs[i]? = some x, fun i H v H' => ∃ T x, v = .ref T ∧ H T = none ∧ H' = upd H T (.tup [.int (i : Nat), x]) ∧ ∀ xs, SqT K H a xs → xs[i]? = some x, fun i H => ∃ xs : List V, SqT K H a xs ∧ xs.length ≤ i⟩
theorem turn_enumT {P : Program} {w : World} {K : PySem.W.Frag} {elts : List Expr} {kk : Nat} {tpos : Pos} (a e it : Addr) (nea : e ≠ a) (nia : a ≠ it) :
    Turn P w K (.Tuple elts kk tpos) (IteT K a) [e, it] e (fun i h => (∃ old, IsEnum h e it ((i : Nat) : Int) old) ∧ h.IsTupleIter it a i ∧ e ≠ it) where
  mem := by simp
  obj := fun i h st b hb => by
    obtain ⟨⟨old, he⟩, ⟨o, ho, hc, hd⟩, _⟩ := st
    have e' : b = e ∨ b = it := by simpa using hb
    rcases e' with z | z
    · rw [z]; exact ⟨_, he, fun v q => nomatch q⟩
    · rw [z]; exact ⟨o, ho, fun v q => by rw [hd] at q; cases q⟩
  keep := fun i h h' st k => let ⟨⟨old, he⟩, hi, hne⟩ := st; ⟨⟨old, k e (by simp) _ he⟩, hi.at fun o q => k it (by simp) o q, hne⟩
  item := by
    intro X hP hw hK hc i pins s σ H E I hf st hg
    subst hP hw hK
    obtain ⟨⟨old, he⟩, hit, hne⟩ := st
    obtain ⟨xs, x, hq, hx⟩ := hg
    obtain ⟨its, rv, p, hz⟩ := I.tuple hq
    obtain ⟨u, hu, ru⟩ := rv.get hx
    have hel : e < s.heap.objs.size := Heap.lt_size he
    have hil : it < s.heap.objs.size := by obtain ⟨_, q, _⟩ := hit; exact Heap.lt_size q
    have hlt : i < its.toArray.size := by
      rw [List.size_toArray]
      exact (List.getElem?_eq_some_iff.mp hu).1
    have D := Draws.tuple (prog := X.prog) (w := X.w) (A := X.A.in1) (I.ok.hd hc) it a nia its.toArray
    refine wpAny_pyNext_enum_itemC D he ⟨hit, p⟩ hlt hne (by simp only [List.mem_cons, List.not_mem_nil, or_false, not_or]; exact ⟨hne, nea⟩) fun x' h' tk hxe ho hst' hT hsz hk => ?_
    have hxu : x' = u := by
      have e1 : its[i]? = some x' := by simpa using hxe
      rw [hu] at e1
      exact (Option.some.inj e1).symm
    subst hxu
    refine ⟨_, rfl, wpAny_letOwnedTupleGo_enum (s := { s with heap := h', toks := tk + 1 }) ho fun h'' he' sb => ?_⟩
    have hT2 : h''.get? s.heap.objs.size = some { cls := .type "tuple", data := .seq #[.int i tk, x'] } := (sb.2 _ (Nat.ne_of_gt hel)).trans hT
    have new : ObjOk X.prog X.w (upd H s.heap.objs.size (.tup [.int (i : Nat), x])) h'' s.heap.objs.size (.tup [.int (i : Nat), x]) :=
      ⟨by show 2 ≤ sizeLine; decide, [.int i tk, x'], .cons ⟨_, rfl⟩ (.cons ru .nil), ⟨_, hT2, rfl, _, rfl⟩⟩
    have I1 : Inv X pins σ (upd H s.heap.objs.size (.tup [.int (i : Nat), x])) { s with heap := h'', toks := tk + 1 } :=
      I.turnedNew (ch := [e, it]) (fun b ob hb q => (sb.2 b (fun z => hb (by simp [z]))).trans (hk b ob (fun z => hb (by simp [z])) (fun z => hb (by simp [z])) q)) hf (Nat.le_refl _) new
    refine ⟨.ref s.heap.objs.size, _, I1, rfl, ⟨_, x, rfl, I.hok.fresh (Nat.le_refl _), rfl, fun ys hy => by rw [I.tuple_inj hy hq]; exact hx⟩, ⟨⟨x', ?_⟩, hst'.1.at fun o q => (sb.2 it (Ne.symm hne)).trans q, hne⟩, fun b hb => ?_⟩
    · have e1 : ((i + 1 : Nat) : Int) = (i : Int) + 1 := by omega
      rw [e1]; exact he'
    · have hb' : b < s.heap.objs.size := by
        have e' : b = e ∨ b = it := by simpa using hb
        rcases e' with z | z
        · rw [z]; exact hel
        · rw [z]; exact hil
      rw [upd_ne (Nat.ne_of_lt hb')]
      exact (hf b hb).1
  done := by
    intro X hP hw hK hc i pins s σ H E I hf st hg
    subst hP hw hK
    obtain ⟨⟨old, he⟩, hit, hne⟩ := st
    obtain ⟨xs, hq, hx⟩ := hg
    obtain ⟨its, rv, p, hz⟩ := I.tuple hq
    obtain ⟨f0, f1, f2, f3, f4, f5⟩ := hf it (by simp)
    have hl := rv.length
    unfold pyNext
    have hT : s.TypeIs (.ref e) "enumerate" := ⟨_, he, rfl⟩
    refine wpAny_bind (wpAny_attempt (wpAny_callSpecial?_slot (name := Str.ofString "__next__") hT F.slot_enumerate_next
      (wpAny_call_entry F.slot_enumerate_next hT F.entry_enumerate_next ?_ (F.args_enumerate_next_1 _))))
    show wpAny _ _ (field (.ref e) 2 >>= _) _ _ _
    refine wpAny_bind (wpAny_field he rfl (x := .ref it) rfl ?_)
    refine wpAny_bind (wpAny_nextOf_tuple_end (I.ok.hd hc) hit p (by simp; omega) fun h' x he' hx' => ?_)
    obtain ⟨o, ho, hcc⟩ := hx'
    refine wpAny_bind (wpAny_isInstance (T := "StopIteration") (b := true) ⟨o, ho, hcc⟩ isSubtype_stop ?_)
    exact wpAny_pure ⟨rfl, I.turned (t' := s.toks) (fun b o hb q => he' b o hb q) f0 f1 f3 f4 f5⟩
  self := fun A i s Q E st h => let ⟨⟨_, he⟩, _⟩ := st; wpAny_pyIter_enum he h
def iEnumT (K : PySem.W.Frag) (ta : TA) : TI := fun σ H R => ta σ H fun vs H1 => ∃ a xs, vs = [.ref a] ∧ SqT K H1 a xs ∧ R (IteT K a) H1
theorem pi_enumT {X : Cx} {e : Expr} {ta : TA} {p pos tpos : Pos} {elts : List Expr} {kk : Nat} (hg : Gl X "enumerate") (hm : X.mg "enumerate" = none) (ha : PA X [e] ta) (hs : starEach [e] X.env = [(false, eval e X.env)] := by rfl) :
    PI X (.Tuple elts kk tpos) (.Call (.Name "enumerate" p) [e] [] pos) (iEnumT X.K ta) := by
  refine ⟨fun pins s σ H R I h => ?_⟩
  refine Call_ (ld_blt I hg hm boot_enumerate (PyProof.Rows.callWith_type1 (thn (ha.run pos pins s σ H _ I h) fun us s1 ⟨vs, H1, I1, r1, q1⟩ => ?_) hs rfl))
  obtain ⟨a, xs, ex, hq, q⟩ := q1
  subst ex
  cases r1 with
  | cons r rr =>
    cases rr
    cases r
    obtain ⟨its, rv, p', hz⟩ := I1.tuple hq
    refine call_enumerate_tuple (show s1.heap.IsTuple a its.toArray from p') fun h' he hit hsz hk => wpAny_pyIter_enum he ?_
    have I2 : Inv X pins σ H1 { s1 with heap := h' } := I1.kept (t' := s1.toks) hk
    have la : a < s1.heap.objs.size := p'.lt
    refine ⟨s1.heap.objs.size + 1, [s1.heap.objs.size + 1, s1.heap.objs.size], _, _, H1, rfl, I2, turn_enumT a (s1.heap.objs.size + 1) s1.heap.objs.size (Nat.ne_of_gt (Nat.lt_succ_of_lt la)) (Nat.ne_of_lt la), ⟨⟨.none, he⟩, hit, Nat.succ_ne_self _⟩, fun b hb => ?_, q⟩
    have e' : b = s1.heap.objs.size + 1 ∨ b = s1.heap.objs.size := by simpa using hb
    have hle : s1.heap.objs.size ≤ b := by
      rcases e' with z | z
      · rw [z]; exact Nat.le_add_right _ _
      · rw [z]; exact Nat.le_refl _
    exact I1.fpOk hle (I1.hok.fresh hle)
theorem walk_enumT {K : PySem.W.Frag} {a : Addr} {xs : List V} : Walk (IteT K a) xs.length (fun H => SqT K H a xs) (YPair (fun i => some (.int (i : Nat))) (fun i => xs[i]?)) :=
  ⟨fun i _ hi q => ⟨xs, xs[i], q, by simp [hi]⟩, fun _ q => ⟨xs, q, Nat.le_refl _⟩, fun i _ _ _ _ q y => by
    obtain ⟨T, x, e1, e2, e3, e4⟩ := y
    exact ⟨T, _, x, e1, e2, e3, rfl, e4 xs q⟩⟩
end Thr
/-! What the terms reckon, the machine does: calls, subscripts, comprehensions. -/
namespace Thr
open PySem PySem.Spec PyProof.Rows L2
section
variable {G : Gs} {T : Tab} {n : Nat} {N : List Str} {X : Cx} {sc : KSc}
theorem PrR.of_rv {K : PySem.W.Frag} {p : Prim} {ι : Wld} {st st' : Store} {pvs : List PV} {pv : PV} {H : Hp} {Q : VK} {xs : List V} (r : Rel K H ι st) (rv : RepVs K H ι xs pvs) (e : primF p pvs st = some (pv, st'))
    (k : ∀ v H' ι', Rel K H' ι' st' → Ev H ι H' ι' → RepV K H' ι' v pv → Q v H') : PrR K p xs H Q := ⟨ι, st, pvs, pv, st', r, rv, e, k⟩
theorem chain_unfold {p q : Prim} {a b c : E} {σ : L2.St} {H : Hp} {Q : VK} (h : TEv T (callF T n) X.K (.chain p q a b c) σ H Q) :
    tChain (fun x y => PrR X.K p [x, y]) (fun x y => PrR X.K q [x, y]) (TEv T (callF T n) X.K a) (TEv T (callF T n) X.K b) (TEv T (callF T n) X.K c) σ H Q := by
  obtain ⟨ρ, st, ι, pv, st', r, re, e, k⟩ := h
  simp only [evE, Option.bind_eq_some_iff] at e
  obtain ⟨⟨p1, s1⟩, e1, ⟨p2, s2⟩, e2, ⟨p3, s3⟩, e3, t, e4, e5⟩ := e
  obtain rfl := asB_inv e4
  refine ⟨ρ, st, ι, p1, s1, r, re, e1, fun v1 H1 ι1 r1 ev1 rv1 => ?_⟩
  refine ⟨ρ, s1, ι1, p2, s2, r1, re.mono ev1, e2, fun v2 H2 ι2 r2 ev2 rv2 => ?_⟩
  refine PrR.of_rv r2 (.cons (rv1.mono ev2) (.cons rv2 .nil)) e3 fun v3 H3 ι3 r3 ev3 rv3 => ⟨t, rep_bl rv3, ?_⟩
  cases t with
  | true =>
    simp only [if_true, Option.bind_eq_some_iff] at e5 ⊢
    obtain ⟨⟨p4, s4⟩, e5, e6⟩ := e5
    refine ⟨ρ, s3, ι3, p4, s4, r3, ((re.mono ev1).mono ev2).mono ev3, e5, fun v4 H4 ι4 r4 ev4 rv4 => ?_⟩
    refine PrR.of_rv r4 (.cons ((rv2.mono ev3).mono ev4) (.cons rv4 .nil)) e6 fun v5 H5 ι5 r5 ev5 rv5 => ?_
    exact k v5 H5 ι5 r5 ((((ev1.trans ev2).trans ev3).trans ev4).trans ev5) rv5
  | false =>
    simp only [Bool.false_eq_true, if_false, Option.some.injEq, Prod.mk.injEq] at e5 ⊢
    obtain ⟨rfl, rfl⟩ := e5
    exact k _ H3 ι3 r3 ((ev1.trans ev2).trans ev3) (.bl _)
theorem sE_chain {a b c : Expr} {a' b' c' : E} {o1 o2 : CmpOp} {p q : Prim} {pos : Pos} (h1 : OpR X (compareOp o1) fun x y => PrR X.K p [x, y]) (h2 : OpR X (compareOp o2) fun x y => PrR X.K q [x, y]) (hm : lastMarks [o1, o2] [b, c] = false)
    (ha : PE X a (TEv T (callF T n) X.K a')) (hb : PE X b (TEv T (callF T n) X.K b')) (hc : PE X c (TEv T (callF T n) X.K c')) :
    PE X (.Compare a [o1, o2] [b, c] pos) (TEv T (callF T n) X.K (.chain p q a' b' c')) ∧ PT X (.Compare a [o1, o2] [b, c] pos) (TTv T (callF T n) X.K (.chain p q a' b' c')) :=
  ⟨(pe_chain h1 h2 ha hb hc hm).imp fun σ H Q q => chain_unfold q, (pt_chain h1 h2 ha hb hc hm).imp fun σ H Q q => chain_unfold (tt_of q)⟩
theorem is_unfold {a : E} {p : Prim} {f : PyData → PyData} (hr : reads p = true) (hp : ∀ d, primD p [d] = some (f d)) {σ : L2.St} {H : Hp} {Q : VK} (h : TEv T (callF T n) X.K (.prim p (.cons a .nil)) σ H Q) :
    TEv T (callF T n) X.K a σ H fun x H1 => ∃ ι d, RepW X.K H1 (foot ι) x d ∧ ∀ v, RepD X.K H1 (foot ι) v (f d) → Q v H1 := by
  refine (ea1 (prim_unfold h)).imp fun v H1 q => ?_
  obtain ⟨ι, st, pvs, pv, st', r, rv, e, k⟩ := q
  rw [primF_reads hr, Option.bind_eq_some_iff] at e
  obtain ⟨ds, h1, e⟩ := e
  rw [Option.map_eq_some_iff] at e
  obtain ⟨d, h2, e⟩ := e
  cases e
  have rw_ := views_rep r rv h1
  cases rw_ with
  | @cons _ a _ _ ha t =>
    cases t
    rw [hp] at h2
    cases h2
    exact ⟨ι, a, ha, fun v rd => k v H1 ι r (.refl _ _) rd⟩
theorem sE_isN {a : Expr} {a' : E} {j : Nat} {pos pos' : Pos} (ha : PE X a (TEv T (callF T n) X.K a')) :
    PE X (.Compare a [.Is] [.Constant .none j pos'] pos) (TEv T (callF T n) X.K (.prim .isNone (.cons a' .nil))) ∧ PT X (.Compare a [.Is] [.Constant .none j pos'] pos) (TTv T (callF T n) X.K (.prim .isNone (.cons a' .nil))) := by
  have key : ∀ σ H Q, TEv T (callF T n) X.K (.prim .isNone (.cons a' .nil)) σ H Q → tIsN (TEv T (callF T n) X.K a') σ H Q := fun σ H Q q => by
    refine (is_unfold (f := fun d => .bool (noneB d)) rfl (fun _ => rfl) q).imp fun x H1 q => ?_
    obtain ⟨ι, d, rd, k⟩ := q
    show Q (.bl (decide (x = .non))) H1
    rw [repD_none rd]
    exact k _ (.bl _)
  exact ⟨(pe_cmp (pc_isN ha)).imp key, (pt_cmp (pc_isN ha)).imp fun σ H Q q => key σ H _ (tt_of q)⟩
theorem sE_notN {a : Expr} {a' : E} {j : Nat} {pos pos' : Pos} (ha : PE X a (TEv T (callF T n) X.K a')) :
    PE X (.Compare a [.IsNot] [.Constant .none j pos'] pos) (TEv T (callF T n) X.K (.prim .notNone (.cons a' .nil))) ∧ PT X (.Compare a [.IsNot] [.Constant .none j pos'] pos) (TTv T (callF T n) X.K (.prim .notNone (.cons a' .nil))) := by
  have key : ∀ σ H Q, TEv T (callF T n) X.K (.prim .notNone (.cons a' .nil)) σ H Q → tNotN (TEv T (callF T n) X.K a') σ H Q := fun σ H Q q => by
    refine (is_unfold (f := fun d => .bool (!noneB d)) rfl (fun _ => rfl) q).imp fun x H1 q => ?_
    obtain ⟨ι, d, rd, k⟩ := q
    show Q (.bl (!decide (x = .non))) H1
    rw [repD_none rd]
    exact k _ (.bl _)
  exact ⟨(pe_cmp (pc_notN ha)).imp key, (pt_cmp (pc_notN ha)).imp fun σ H Q q => key σ H _ (tt_of q)⟩
/-! ### calls -/
theorem call_unfold {i : Nat} {as : Es} {σ : L2.St} {H : Hp} {Q : VK} {E : XK} (h : TEv T (callF T n) X.K (.call i as) σ H Q) : TAv T (callF T n) X.K as σ H fun vs H1 => spF T n i X.K (vs ++ []) H1 Q E := by
  obtain ⟨ρ, st, ι, pv, st', r, re, e, k⟩ := h
  simp only [evE, Option.bind_eq_some_iff] at e
  obtain ⟨⟨pvs, s1⟩, e1, e2⟩ := e
  refine ⟨ρ, st, ι, pvs, s1, r, re, e1, fun vs H1 ι1 r1 ev1 rv1 => ?_⟩
  show spF T n i X.K (vs ++ []) H1 Q E
  rw [List.append_nil]
  exact ⟨ι1, s1, pvs, pv, st', r1, rv1, e2, fun v H2 r2 ev2 rv2 => k v H2 ι1 r2 (ev1.trans ev2) rv2⟩
theorem sE_call (C : CtxX G T n N X) (S : ScOk sc X) {x : Str} {p pos : Pos} {i : Nat} {es : List Expr} {as : Es} (hl : G.fn.lookup x = some i) (hg : isGl sc x = true) (hn : okName x = true)
    (ha : PA X es (TAv T (callF T n) X.K as)) (hst : ∀ env, ∀ y ∈ starEach es env, y.1 = false) (has : es = [] → as = .nil) : PE X (.Call (.Name x p) es [] pos) (TEv T (callF T n) X.K (.call i as)) := by
  obtain ⟨f, fd, ps, hm, hk, hb, F⟩ := C.fns x i hl
  obtain ⟨hd, _, _⟩ := okName_inv hn
  cases es with
  | nil =>
    refine (pe_call0 F C.room (gl_of S hg) hm hk hb .nil pass0 hd).imp fun σ H Q q => ?_
    cases has rfl
    obtain ⟨ρ, st, ι, pv, st', r, re, e, k⟩ := q
    simp only [evE, evEs, Option.bind_some] at e
    show spF T n i X.K ([] ++ []) H Q E0
    exact ⟨ι, st, [], pv, st', r, .nil, e, fun v H2 r2 ev2 rv2 => k v H2 ι r2 ev2 rv2⟩
  | cons e es =>
    have h1 : starEach (e :: es) X.env = (false, eval e X.env) :: starEach es X.env := by
      cases e <;> first | rfl | (have := hst X.env (true, _) List.mem_cons_self; cases this)
    refine (pe_call F C.room (gl_of S hg) hm hk hb .nil pass0 ha hd h1 (plain_of fun y hy => hst X.env y (by rw [h1]; exact List.mem_cons_of_mem _ hy))).imp fun σ H Q q => call_unfold q
theorem blt_ok (hc : X.calm = true) {p : Prim} {x : Str} (h : bltOf p = some x) : reads p = true ∧ ((∃ id, bootBuiltins x = some (.builtin id) ∧ CallR X (.builtin id) (PrR X.K p)) ∨ (∃ ty, bootBuiltins x = some (.type ty) ∧ CallR X (.type ty) (PrR X.K p))) := by
  cases p <;> first | (cases h; done) | (simp only [bltOf, Option.some.injEq] at h; subst h; refine ⟨rfl, ?_⟩)
  · exact .inl ⟨_, PySem.boot_len, CallR.imp prim_len fun _ _ _ q => q.rd rfl⟩
  · exact .inr ⟨_, PyProof.Rows.boot_tuple, CallR.imp prim_tupOf fun _ _ _ q => q.rd rfl⟩
  · exact .inr ⟨_, PyProof.Rows.boot_list, CallR.imp prim_lstOf fun _ _ _ q => q.rd rfl⟩
  · exact .inr ⟨_, PyProof.Rows.boot_int, CallR.imp prim_intOf fun _ _ _ q => q.rd rfl⟩
  · exact .inr ⟨_, PyProof.Rows.boot_str, CallR.imp prim_strOf fun _ _ _ q => q.rd rfl⟩
  · exact .inl ⟨_, boot_sum, CallR.imp (prim_sumOf hc) fun _ _ _ q => q.rd rfl⟩
  · exact .inl ⟨_, boot_all, CallR.imp (prim_allOf hc) fun _ _ _ q => q.rd rfl⟩
  · exact .inl ⟨_, boot_any, CallR.imp (prim_anyOf hc) fun _ _ _ q => q.rd rfl⟩
theorem star_cons {e : Expr} {es : List Expr} (hst : ∀ env, ∀ y ∈ starEach (e :: es) env, y.1 = false) (env : PySem.Env) : starEach (e :: es) env = (false, eval e env) :: starEach es env := by
  cases e <;> first | rfl | (have := hst env (true, _) List.mem_cons_self; cases this)
theorem sE_blt (C : CtxX G T n N X) (S : ScOk sc X) {x : Str} {p pos : Pos} {pr : Prim} {e : Expr} {es : List Expr} {as : Es} (hb : bltOf pr = some x) (hx : isBl G sc x = true)
    (ha : PA X (e :: es) (TAv T (callF T n) X.K as)) (hst : ∀ env, ∀ y ∈ starEach (e :: es) env, y.1 = false) : PE X (.Call (.Name x p) (e :: es) [] pos) (TEv T (callF T n) X.K (.prim pr as)) := by
  obtain ⟨h1, h2, h3, h4⟩ := bl_of C S hx
  have hs := star_cons hst X.env
  have hp := plain_of (es := es) (pos := pos) (env := X.env) fun y hy => hst X.env y (by rw [hs]; exact List.mem_cons_of_mem _ hy)
  rcases (blt_ok C.calm hb).2 with ⟨id, hv, hr⟩ | ⟨ty, hv, hr⟩
  · exact (pe_callB hr h1 h2 hv ha h4 h3 hs hp).imp fun σ H Q q => prim_unfold q
  · exact (pe_callTy hr h1 h2 hv ha h4 h3 hs hp).imp fun σ H Q q => prim_unfold q
/-! ### isinstance -/
def tyStr : Ty → String
  | .int => "int"
  | .bool => "bool"
  | .str => "str"
  | .tuple => "tuple"
  | .list => "list"
theorem boot_ty (t : Ty) : bootBuiltins (tyName t) = some (.type (tyStr t)) := by
  cases t
  · exact PyProof.Rows.boot_int
  · exact PyProof.Rows.boot_bool
  · exact PyProof.Rows.boot_str
  · exact PyProof.Rows.boot_tuple
  · exact PyProof.Rows.boot_list
def kindS : PyData → String
  | .none => "NoneType"
  | .bool _ => "bool"
  | .int _ => "int"
  | .str _ => "str"
  | .list _ => "list"
  | .tuple _ => "tuple"
  | .dict _ => "dict"
theorem repW_ty {K : PySem.W.Frag} {H : Hp} {F : List Addr} {x : V} {d : PyData} (h : RepW K H F x d) : TyX K H x (.type (kindS d)) := by
  cases d with
  | none => rw [repW_none h]; exact .base .non
  | bool b => rw [repW_bool h]; exact .base (.bl b)
  | int i => rw [repW_int h]; exact .base (.int i)
  | str z => rw [(repW_str h).1]; exact .base (.str z)
  | list ds =>
    obtain ⟨a, xs, rfl, hr, _⟩ := h
    rcases hr with (hr | ⟨o, hr⟩) | ⟨o, its, m, hk, hc, _⟩
    · exact .base (.lst hr)
    · exact .base (.frz hr)
    · exact .kList hk hc
  | tuple ds =>
    obtain ⟨a, xs, rfl, hr, _⟩ := repW_tup h
    rcases hr with ⟨hr | ⟨o, hr⟩, _⟩ | ⟨o, its, m, hk, hc, _⟩
    · exact .base (.tup hr)
    · exact .fTuple hr
    · exact .kTuple hk hc
  | dict ks =>
    obtain ⟨a, xs, rfl, hr, _⟩ := h
    exact .base (.dK hr)
theorem kit_all (t : Ty) (d : PyData) : kitB (kindS d) (tyStr t) = some (tyIs t d) := by
  cases t <;> cases d <;> (simp only [kindS, tyStr, tyIs]; decide +kernel)
theorem sE_isi (C : CtxX G T n N X) (S : ScOk sc X) {a : Expr} {a' : E} {t : Ty} {p p2 pos : Pos} (hx : isBl G sc "isinstance" = true) (ht : isBl G sc (tyName t) = true) (hst : notStar a = true) (ha : PE X a (TEv T (callF T n) X.K a')) :
    PE X (.Call (.Name "isinstance" p) [a, .Name (tyName t) p2] [] pos) (TEv T (callF T n) X.K (.prim (.isinst t) (.cons a' .nil))) := by
  obtain ⟨h1, h2, h3, h4⟩ := bl_of C S hx
  obtain ⟨t1, t2, t3, t4⟩ := bl_of C S ht
  have pt : PE X (.Name (tyName t) p2) (tC (.ty (tyStr t))) := pe_bltn t1 t2 (boot_ty t) rfl t4 t3
  refine (pe_callB call_isi h1 h2 boot_isinstance (pa_cons ha (pa_cons pt pa_nil) (star_of hst _ _)) h4 h3 (star_of hst _ _) rfl).imp fun σ H Q q => ?_
  refine (is_unfold (f := fun d => .bool (tyIs t d)) rfl (fun _ => rfl) q).imp fun x H1 q => ?_
  obtain ⟨ι, d, rd, k⟩ := q
  exact ⟨x, .ty (tyStr t), _, _, _, rfl, .ty _, repW_ty rd, kit_ty (kit_all t d), k _ (.bl _)⟩
/-! ### methods of built-ins -/
theorem base_of {o : Expr} (h : baseOk o = true) (a : Str) (env : PySem.Env) (wh : Sem Value) : attributeBase o a env wh = wh := by
  cases o <;> first | rfl | (exact absurd h Bool.false_ne_true)
theorem few1 {e : Expr} {pos : Pos} {env : PySem.Env} (hs : notStar e = true) : ((backTo pos (starEach [e] env)).all (fun x => !x.1) && (backToKw pos (keywordEach [] env)).all (fun x => x.1.isSome)
      && decide (([e] : List Expr).length + ([] : List Keyword).length + (if ([] : List Keyword).isEmpty then 0 else 1) < 30)) = true := by
  rw [star_of hs]
  rfl
theorem isLst_inv {v : PV} {st : Store} (h : isLst v st = true) : ∃ m ds, v = .ref m ∧ st[m]? = some (.lst ds) := by
  cases v with
  | d x => cases h
  | ref m =>
    simp only [isLst] at h
    split at h
    · rename_i ds e
      exact ⟨m, ds, rfl, e⟩
    · cases h
theorem isStr_inv {v : PV} (h : isStr v = true) : ∃ x, v = .d (.str x) := by
  unfold isStr at h
  split at h
  · exact ⟨_, rfl⟩
  · cases h
theorem sE_append {o e : Expr} {o' : E} {as : Es} {apos pos : Pos} (hbase : baseOk o = true) (hline : (apos.endLine == pos.line) = true) (hs : notStar e = true)
    (ho : PE X o (TEv T (callF T n) X.K o')) (he : PA X [e] (TAv T (callF T n) X.K as)) : PE X (.Call (.Attribute o "append" apos) [e] [] pos) (TEv T (callF T n) X.K (.meth .append o' as)) := by
  refine (pe_bm PySem.F.plainAttrs_list PySem.F.slot_list_append PySem.F.type_list_append append_ok ho he (base_of hbase _ _ _) (few1 hs) hline (star_of hs _ _) rfl).imp fun σ H Q q => ?_
  obtain ⟨ρ, st, ι, pv, st', r, re, e, k⟩ := q
  simp only [evE, Option.bind_eq_some_iff, Option.ite_none_right_eq_some] at e
  obtain ⟨⟨p1, s1⟩, e1, hk, ⟨pvs, s2⟩, e2, e3⟩ := e
  refine ⟨ρ, st, ι, p1, s1, r, re, e1, fun v1 H1 ι1 r1 ev1 rv1 => ⟨?_, ?_⟩⟩
  · obtain ⟨m, ds, rfl, hm⟩ := isLst_inv (show isLst p1 s1 = true from hk)
    obtain ⟨ca, hc, rfl⟩ := rv1
    obtain ⟨cb, h3, h4⟩ := r1.cells m _ hm
    rw [hc] at h3; cases h3
    cases ca <;> first | (exact h4.elim) | skip
    obtain ⟨ys, a1, _⟩ := h4
    exact .inl ⟨rfl, ys, .inl (.inl a1)⟩
  · refine ⟨ρ, s1, ι1, pvs, s2, r1, re.mono ev1, e2, fun v2 H2 ι2 r2 ev2 rv2 => ?_⟩
    exact PrR.of_rv r2 (.cons (rv1.mono ev2) rv2) e3 fun v3 H3 ι3 r3 ev3 rv3 => k v3 H3 ι3 r3 ((ev1.trans ev2).trans ev3) rv3
theorem sE_join {o e : Expr} {o' a' : E} {apos pos : Pos} (hbase : baseOk o = true) (hline : (apos.endLine == pos.line) = true) (hs : notStar e = true)
    (ho : PE X o (TEv T (callF T n) X.K o')) (he : PE X e (TEv T (callF T n) X.K a')) : PE X (.Call (.Attribute o "join" apos) [e] [] pos) (TEv T (callF T n) X.K (.meth .join o' (.cons a' .nil))) := by
  refine (pe_m1 F.slot_str_join F.type_str_join (MtR.imp prim_join fun _ _ _ _ q => PrR.rd (p := .join) rfl q) ho he (star_of hs _ _) (base_of hbase _ _ _) hline).imp fun σ H Q q => ?_
  obtain ⟨ρ, st, ι, pv, st', r, re, e, k⟩ := q
  simp only [evE, Option.bind_eq_some_iff, Option.ite_none_right_eq_some] at e
  obtain ⟨⟨p1, s1⟩, e1, hk, ⟨pvs, s2⟩, e2, e3⟩ := e
  refine ⟨ρ, st, ι, p1, s1, r, re, e1, fun v1 H1 ι1 r1 ev1 rv1 => ⟨?_, ?_⟩⟩
  · obtain ⟨x, rfl⟩ := isStr_inv (show isStr p1 = true from hk)
    cases (show RepD X.K H1 (foot ι1) v1 (.str x) from rv1)
    exact ⟨_, rfl⟩
  · refine ea1 (Q := fun vs H2 => PrR X.K .join (v1 :: vs) H2 Q) ⟨ρ, s1, ι1, pvs, s2, r1, re.mono ev1, e2, fun v2 H2 ι2 r2 ev2 rv2 => ?_⟩
    exact PrR.of_rv r2 (.cons (rv1.mono ev2) rv2) e3 fun v3 H3 ι3 r3 ev3 rv3 => k v3 H3 ι3 r3 ((ev1.trans ev2).trans ev3) rv3
/-! ### subscripts -/
theorem ix_of {b : Expr} (h : notSlice b = true) : PlainIx b := by
  intro o i
  cases b <;> first | rfl | (exact absurd h Bool.false_ne_true)
theorem sE_ix {a b : Expr} {a' b' : E} {pos : Pos} (hb : notSlice b = true) (pa : PE X a (TEv T (callF T n) X.K a')) (pb : PE X b (TEv T (callF T n) X.K b')) : PE X (.Subscript a b pos) (TEv T (callF T n) X.K (.prim .ix (.cons a' (.cons b' .nil)))) :=
  (pe_ix (IxR.imp prim_ix fun _ _ _ _ q => PrR.rd (p := .ix) rfl q) pa pb (ix_of hb)).imp fun σ H Q q => ea2 (prim_unfold q)
theorem slp {a d : PyData} {lo hi : Option Int} {ι : Wld} {st : Store} {H : Hp} {Q : VK} {x : V} (r : Rel X.K H ι st) (hx : RepW X.K H (foot ι) x a) (h : slcF a lo hi = some d)
    (k : ∀ v H' ι', Rel X.K H' ι' st → Ev H ι H' ι' → RepV X.K H' ι' v (.d d) → Q v H') : SlP X.K x lo hi H Q :=
  ⟨foot ι, a, d, r.alloc, hx, h, fun v H' g rd => k v H' ι (r.grow g) (r.ev g) rd⟩
theorem sE_slcN {a : Expr} {a' : E} {pos p2 : Pos} (pa : PE X a (TEv T (callF T n) X.K a')) : PE X (.Subscript a (.Slice none none none p2) pos) (TEv T (callF T n) X.K (.prim .slcN (.cons a' .nil))) :=
  (pe_slice prim_slc pa po_none po_none).imp fun σ H Q q => by
    refine (ea1 (prim_unfold q)).imp fun x H1 q => ?_
    obtain ⟨ι, st, pvs, pv, st', r, rv, e, k⟩ := q
    simp only [primF, Option.bind_eq_some_iff, Option.map_eq_some_iff] at e
    obtain ⟨ds, h1, d, h2, e⟩ := e
    cases e
    change slc0 ds = some d at h2
    unfold slc0 at h2
    split at h2
    · have rw_ := views_rep r rv h1
      cases rw_ with
      | cons h t => cases t; exact slp r h h2 k
    · cases h2
theorem sE_slcL {a b : Expr} {a' b' : E} {pos p2 : Pos} (pa : PE X a (TEv T (callF T n) X.K a')) (pb : PE X b (TEv T (callF T n) X.K b')) : PE X (.Subscript a (.Slice (some b) none none p2) pos) (TEv T (callF T n) X.K (.prim .slcL (.cons a' (.cons b' .nil)))) :=
  (pe_slice prim_slc pa (po_some pb) po_none).imp fun σ H Q q => by
    refine (ea2 (prim_unfold q)).imp fun x H1 q => q.imp fun y H2 q => ?_
    obtain ⟨ι, st, pvs, pv, st', r, rv, e, k⟩ := q
    simp only [primF, Option.bind_eq_some_iff, Option.map_eq_some_iff] at e
    obtain ⟨ds, h1, d, h2, e⟩ := e
    cases e
    change slc1 ds = some d at h2
    unfold slc1 at h2
    split at h2
    · have rw_ := views_rep r rv h1
      cases rw_ with
      | cons h t => cases t with
        | cons h' t => cases t; exact ⟨_, repW_int h', slp r h h2 k⟩
    · cases h2
theorem sE_slcH {a b : Expr} {a' b' : E} {pos p2 : Pos} (pa : PE X a (TEv T (callF T n) X.K a')) (pb : PE X b (TEv T (callF T n) X.K b')) : PE X (.Subscript a (.Slice none (some b) none p2) pos) (TEv T (callF T n) X.K (.prim .slcH (.cons a' (.cons b' .nil)))) :=
  (pe_slice prim_slc pa po_none (po_some pb)).imp fun σ H Q q => by
    refine (ea2 (prim_unfold q)).imp fun x H1 q => q.imp fun y H2 q => ?_
    obtain ⟨ι, st, pvs, pv, st', r, rv, e, k⟩ := q
    simp only [primF, Option.bind_eq_some_iff, Option.map_eq_some_iff] at e
    obtain ⟨ds, h1, d, h2, e⟩ := e
    cases e
    change slc2 ds = some d at h2
    unfold slc2 at h2
    split at h2
    · have rw_ := views_rep r rv h1
      cases rw_ with
      | cons h t => cases t with
        | cons h' t => cases t; exact ⟨_, repW_int h', slp r h h2 k⟩
    · cases h2
theorem view_int {st : Store} {pv : PV} {i : Int} (h : view st pv = some (.int i)) : pv = .d (.int i) := by
  cases pv with
  | d x => simp only [view, Option.some.injEq] at h; rw [h]
  | ref m =>
    simp only [view] at h
    split at h <;> first | (cases h; done) | skip
theorem sE_slcLH {a b c : Expr} {a' b' c' : E} {pos p2 : Pos} (pa : PE X a (TEv T (callF T n) X.K a')) (pb : PE X b (TEv T (callF T n) X.K b')) (pc : PE X c (TEv T (callF T n) X.K c')) :
    PE X (.Subscript a (.Slice (some b) (some c) none p2) pos) (TEv T (callF T n) X.K (.prim .slcLH (.cons a' (.cons b' (.cons c' .nil))))) :=
  (pe_slice prim_slc pa (po_some pb) (po_some pc)).imp fun σ H Q q => by
    obtain ⟨ρ, st, ι, pv, st', r, re, e, k⟩ := q
    simp only [evE, evEs, Option.bind_eq_some_iff, Option.map_eq_some_iff, Prod.mk.injEq, Option.some.injEq] at e
    obtain ⟨⟨pvs, s0⟩, ⟨⟨p1, s1⟩, e1, ⟨⟨q1, _⟩, ⟨⟨p2, s2⟩, e2, ⟨⟨q2, _⟩, ⟨⟨p3, s3⟩, e3, ⟨⟨_, _⟩, ⟨rfl, rfl⟩, rfl, rfl⟩⟩, rfl, rfl⟩⟩, rfl, rfl⟩⟩, e4⟩ := e
    simp only [primF, Option.bind_eq_some_iff, Option.map_eq_some_iff] at e4
    obtain ⟨ds, h1, d, h2, e4⟩ := e4
    cases e4
    change slc3 ds = some d at h2
    unfold slc3 at h2
    split at h2
    · rename_i x lo hi
      simp only [views, Option.bind_eq_some_iff, Option.map_eq_some_iff, Option.some.injEq, List.cons.injEq] at h1
      obtain ⟨x', h3, w1, ⟨y', h4, w2, ⟨z', h5, w3, hw3, hw2⟩, hw1⟩, hx, hw⟩ := h1
      subst hx hw3 hw2 hw1
      simp only [List.cons.injEq, and_true] at hw
      obtain ⟨hy, hz⟩ := hw
      subst hy hz
      obtain rfl := view_int h4
      obtain rfl := view_int h5
      refine ⟨ρ, st, ι, p1, s1, r, re, e1, fun v1 H1 ι1 r1 ev1 rv1 => ?_⟩
      refine ⟨ρ, s1, ι1, _, s2, r1, re.mono ev1, e2, fun v2 H2 ι2 r2 ev2 rv2 => ?_⟩
      refine ⟨lo, repW_int (RepD.w rv2), ?_⟩
      refine ⟨ρ, s2, ι2, _, st', r2, (re.mono ev1).mono ev2, e3, fun v3 H3 ι3 r3 ev3 rv3 => ?_⟩
      refine ⟨hi, repW_int (RepD.w rv3), ?_⟩
      exact slp r3 (view_rep r3 ((rv1.mono ev2).mono ev3) h3) h2 fun v H' ι' r' ev' rv' => k v H' ι' r' (((ev1.trans ev2).trans ev3).trans ev') rv'
    · cases h2
end
end Thr
/-! What is walked; comprehensions. -/
namespace Thr
open PySem PySem.Spec PyProof.Rows L2
open RZ (ItzT pi_zipA iZipA)
def WkOk (K : PySem.W.Frag) (H0 : Hp) (F0 : List Addr) (xs : List PyData) (J : It) : Prop :=
  Walk J xs.length (fun H => ∃ F, Ext H0 F0 H F) (fun i H x H' => Grow H H' ∧ ∃ d, xs[i]? = some d ∧ ∀ F, Ext H0 F0 H F → Alloc H F → RepD K H' F x d)
def TIv (T : Tab) (O : Orc) (K : PySem.W.Frag) (k : IterK) (as : Es) : TI := fun σ H R => ∃ ρ st ι pvs st' ds xs, Rel K H ι st ∧ RepE K H ι σ ρ ∧ evEs T O as ρ st = some (pvs, st') ∧ allD pvs = some ds ∧ itemsOf k ds = some xs ∧
  ∀ J H' ι', Rel K H' ι' st' → Ev H ι H' ι' → xs.length ≤ sizeLine → WkOk K H' (foot ι') xs J → R J H'
section
variable {K : PySem.W.Frag} {H0 : Hp} {F0 : List Addr}
theorem wk_list {a : Addr} {vs : List V} {xs : List PyData} (h : LstAt K H0 F0 a vs) (r : RepDs K H0 F0 vs xs) : WkOk K H0 F0 xs (Itl K a) := by
  have w := walk_list (K := K) (a := a) (xs := vs)
  rw [r.length] at w
  refine w.mono (fun H ⟨F, e⟩ => (h.mono e).sq) fun i H x H' hi ⟨F, e⟩ y => ?_
  obtain ⟨rfl, y⟩ := y
  obtain ⟨d, h1, h2⟩ := r.get' y
  exact ⟨.refl _, d, h1, fun F' e' _ => h2.mono e'⟩
theorem wk_tup {a : Addr} {vs : List V} {xs : List PyData} (h : TupAt K H0 F0 a vs) (r : RepDs K H0 F0 vs xs) : WkOk K H0 F0 xs (Itt K a) := by
  have w := walk_tup (K := K) (a := a) (xs := vs)
  rw [r.length] at w
  refine w.mono (fun H ⟨F, e⟩ => (h.mono e).sq) fun i H x H' hi ⟨F, e⟩ y => ?_
  obtain ⟨rfl, y⟩ := y
  obtain ⟨d, h1, h2⟩ := r.get' y
  exact ⟨.refl _, d, h1, fun F' e' _ => h2.mono e'⟩
theorem wk_str {z : Str} (l : z.length ≤ sizeLine) (o : PyData.strOk z = true) : WkOk K H0 F0 (z.cps.toList.map fun c => .str ⟨#[c]⟩) (Its z) := by
  have w := walk_str (z := z)
  have e : z.cps.size = (z.cps.toList.map fun c => PyData.str ⟨#[c]⟩).length := by simp
  rw [e] at w
  refine w.mono (fun H _ => trivial) fun i H x H' hi _ y => ?_
  obtain ⟨rfl, c, hc, rfl⟩ := y
  have hc' : z.cps.toList[i]? = some c := by simpa using hc
  exact ⟨.refl _, .str ⟨#[c]⟩, by rw [List.getElem?_map, hc']; rfl, fun F' e' _ => .str _ (by show 1 ≤ sizeLine; decide) (ok_sign o (List.mem_of_getElem? hc'))⟩
theorem wk_range {n : Int} (h : 0 ≤ n) : WkOk K H0 F0 ((List.range n.toNat).map fun (i : Nat) => .int i) (Itr 0 n.toNat) := by
  have w := walk_range (lo := 0) (n := n.toNat)
  have e : ((List.range n.toNat).map fun (i : Nat) => PyData.int i).length = n.toNat := by simp
  unfold WkOk
  rw [e]
  refine w.mono (fun H _ => trivial) fun i H x H' hi _ y => ?_
  obtain ⟨rfl, rfl⟩ := y
  refine ⟨.refl _, .int i, ?_, fun F' e' _ => ?_⟩
  · rw [List.getElem?_map, List.getElem?_range hi]; rfl
  · show RepD K H' F' (.int (0 + (i : Int))) (.int (i : Int))
    rw [Int.zero_add]; exact .int _
theorem wk_pair {J : It} {n : Nat} {G : Hp → Prop} {f g : Nat → Option V} (w : Walk J n G (YPair f g)) {xs : List PyData} (hn : n = xs.length) (hG : ∀ H F, Ext H0 F0 H F → G H)
    (hf : ∀ i v u, f i = some v → g i = some u → i < n → ∃ d e, xs[i]? = some (.tuple [d, e]) ∧ RepD K H0 F0 v d ∧ RepD K H0 F0 u e) : WkOk K H0 F0 xs J := by
  unfold WkOk
  rw [← hn]
  refine w.mono (fun H ⟨F, e⟩ => hG H F e) fun i H x H' hi _ y => ?_
  obtain ⟨t, v, u, rfl, ht, rfl, h1, h2⟩ := y
  obtain ⟨d, e, h3, h4, h5⟩ := hf i v u h1 h2 hi
  exact ⟨Grow.upd ht _, _, h3, fun F' e' al => new_tup al ht (by show 2 ≤ sizeLine; decide) (.cons (h4.mono e') (.cons (h5.mono e') .nil))⟩
theorem enum_len (xs : List PyData) : ((List.range xs.length).zip xs |>.map fun p => PyData.tuple [.int p.1, p.2]).length = xs.length := by simp
theorem enum_get {xs : List PyData} {i : Nat} {d : PyData} (h : xs[i]? = some d) : ((List.range xs.length).zip xs |>.map fun p => PyData.tuple [.int p.1, p.2])[i]? = some (.tuple [.int i, d]) := by
  have hi := (List.getElem?_eq_some_iff.mp h).1
  rw [List.getElem?_map, (List.getElem?_zip_eq_some (z := (i, d))).mpr ⟨List.getElem?_range hi, h⟩] <;> rfl
theorem wk_enumL {a : Addr} {vs : List V} {xs : List PyData} (h : LstAt K H0 F0 a vs) (r : RepDs K H0 F0 vs xs) : WkOk K H0 F0 ((List.range xs.length).zip xs |>.map fun p => .tuple [.int p.1, p.2]) (Ite K a) := by
  refine wk_pair (walk_enum (K := K) (a := a) (xs := vs)) (by rw [enum_len]; exact r.length) (fun H F e => (h.mono e).sq) fun i v u h1 h2 hi => ?_
  cases h1
  obtain ⟨d, h3, h4⟩ := r.get' h2
  exact ⟨_, d, enum_get h3, .int _, h4⟩
theorem wk_enumT {a : Addr} {vs : List V} {xs : List PyData} (h : TupAt K H0 F0 a vs) (r : RepDs K H0 F0 vs xs) : WkOk K H0 F0 ((List.range xs.length).zip xs |>.map fun p => .tuple [.int p.1, p.2]) (IteT K a) := by
  refine wk_pair (walk_enumT (K := K) (a := a) (xs := vs)) (by rw [enum_len]; exact r.length) (fun H F e => (h.mono e).sq) fun i v u h1 h2 hi => ?_
  cases h1
  obtain ⟨d, h3, h4⟩ := r.get' h2
  exact ⟨_, d, enum_get h3, .int _, h4⟩
theorem walk_zipT {a b : Addr} {xs ys : List V} {n : Nat} (hn : n = min xs.length ys.length) : Walk (ItzT K a b) n (fun H => SqT K H a xs ∧ SqT K H b ys) (YPair (fun i => xs[i]?) (fun i => ys[i]?)) := by
  subst hn
  refine ⟨fun i _ hi q => ⟨xs, ys, xs[i]'(by omega), ys[i]'(by omega), q.1, q.2, by simp [show i < xs.length by omega], by simp [show i < ys.length by omega]⟩, fun _ q => ⟨xs, ys, q.1, q.2, ?_⟩, fun i _ _ _ _ q y => ?_⟩
  · rcases Nat.le_total xs.length ys.length with z | z
    · exact .inl (by omega)
    · exact .inr (by omega)
  · obtain ⟨T, x, y', e1, e2, e3, e4, e5⟩ := y
    exact ⟨T, x, y', e1, e2, e3, e4 xs q.1, e5 ys q.2⟩
theorem zip_get {xs ys : List PyData} {i : Nat} {d e : PyData} (h : xs[i]? = some d) (h' : ys[i]? = some e) : ((xs.zip ys).map fun p => PyData.tuple [p.1, p.2])[i]? = some (.tuple [d, e]) := by
  rw [List.getElem?_map, (List.getElem?_zip_eq_some (z := (d, e))).mpr ⟨h, h'⟩] <;> rfl
theorem wk_zipL {a b : Addr} {vs us : List V} {xs ys : List PyData} (h : LstAt K H0 F0 a vs) (h' : LstAt K H0 F0 b us) (r : RepDs K H0 F0 vs xs) (r' : RepDs K H0 F0 us ys) : WkOk K H0 F0 ((xs.zip ys).map fun p => .tuple [p.1, p.2]) (Itz K a b) := by
  refine wk_pair (walk_zip (K := K) (a := a) (b := b) (xs := vs) (ys := us) rfl) (by rw [r.length, r'.length]; simp) (fun H F e => ⟨(h.mono e).sq, (h'.mono e).sq⟩) fun i v u h1 h2 hi => ?_
  obtain ⟨d, h3, h4⟩ := r.get' h1
  obtain ⟨d', h3', h4'⟩ := r'.get' h2
  exact ⟨d, d', zip_get h3 h3', h4, h4'⟩
theorem wk_zipT {a b : Addr} {vs us : List V} {xs ys : List PyData} (h : TupAt K H0 F0 a vs) (h' : TupAt K H0 F0 b us) (r : RepDs K H0 F0 vs xs) (r' : RepDs K H0 F0 us ys) : WkOk K H0 F0 ((xs.zip ys).map fun p => .tuple [p.1, p.2]) (ItzT K a b) := by
  refine wk_pair (walk_zipT (K := K) (a := a) (b := b) (xs := vs) (ys := us) rfl) (by rw [r.length, r'.length]; simp) (fun H F e => ⟨(h.mono e).sq, (h'.mono e).sq⟩) fun i v u h1 h2 hi => ?_
  obtain ⟨d, h3, h4⟩ := r.get' h1
  obtain ⟨d', h3', h4'⟩ := r'.get' h2
  exact ⟨d, d', zip_get h3 h3', h4, h4'⟩
end
section
variable {G : Gs} {T : Tab} {n : Nat} {N : List Str} {X : Cx} {sc : KSc}
theorem allD1 {pv : PV} {ds : List PyData} (h : allD [pv] = some ds) : ∃ d, pv = .d d ∧ ds = [d] := by
  cases pv with
  | d x => simp only [allD, Option.map_some, Option.some.injEq] at h; exact ⟨x, rfl, h.symm⟩
  | ref m => cases h
theorem evEs1 {O : Orc} {a : E} {ρ : Slots} {st st' : Store} {pvs : List PV} (h : evEs T O (.cons a .nil) ρ st = some (pvs, st')) : ∃ pv, pvs = [pv] ∧ evE T O a ρ st = some (pv, st') := by
  simp only [evEs, Option.bind_eq_some_iff, Option.map_eq_some_iff, Prod.mk.injEq, Option.some.injEq] at h
  obtain ⟨⟨pv, st1⟩, e1, ⟨⟨pvs2, st2⟩, ⟨rfl, rfl⟩, rfl, rfl⟩⟩ := h
  exact ⟨pv, rfl, e1⟩
theorem sI_seq {tg it : Expr} {a : E} (pa : PE X it (TEv T (callF T n) X.K a)) : PI X tg it (TIv T (callF T n) X.K .seq (.cons a .nil)) := by
  refine ⟨fun pins s σ H R I q => ?_⟩
  obtain ⟨ρ, st, ι, pvs, st', ds, xs, r, re, e, e2, e3, k⟩ := q
  obtain ⟨pv, rfl, e1⟩ := evEs1 e
  obtain ⟨d, rfl, rfl⟩ := allD1 e2
  cases d <;> first | (simp [itemsOf] at e3; done) | skip
  · simp only [itemsOf, Option.some.injEq] at e3
    subst e3
    refine (pi_str pa).run pins s σ H R I ⟨ρ, st, ι, _, st', r, re, e1, fun v H1 ι1 r1 ev1 rv1 => ?_⟩
    cases (show RepD X.K H1 (foot ι1) v (.str _) from rv1) with
    | str z l o => exact ⟨_, rfl, k _ _ ι1 r1 ev1 (by rw [List.length_map]; exact l) (wk_str l o)⟩
  · simp only [itemsOf, Option.some.injEq] at e3
    subst e3
    refine (pi_list pa).run pins s σ H R I ⟨ρ, st, ι, _, st', r, re, e1, fun v H1 ι1 r1 ev1 rv1 => ?_⟩
    cases (show RepD X.K H1 (foot ι1) v (.list _) from rv1) with
    | lst h l rr => exact ⟨_, rfl, ⟨_, h.sq⟩, k _ _ ι1 r1 ev1 l (wk_list h rr)⟩
  · simp only [itemsOf, Option.some.injEq] at e3
    subst e3
    refine (pi_tup pa).run pins s σ H R I ⟨ρ, st, ι, _, st', r, re, e1, fun v H1 ι1 r1 ev1 rv1 => ?_⟩
    cases (show RepD X.K H1 (foot ι1) v (.tuple _) from rv1) with
    | tup h l rr => exact ⟨_, rfl, ⟨_, h.sq⟩, k _ _ ι1 r1 ev1 l (wk_tup h rr)⟩
theorem sI_range {tg e : Expr} {as : Es} {p pos : Pos} (hg : Gl X "range") (hm : X.mg "range" = none) (hs : starEach [e] X.env = [(false, eval e X.env)]) (pa : PA X [e] (TAv T (callF T n) X.K as)) :
    PI X tg (.Call (.Name "range" p) [e] [] pos) (TIv T (callF T n) X.K .range as) := by
  refine (pi_range1 hg hm pa hs).imp fun σ H R q => ?_
  obtain ⟨ρ, st, ι, pvs, st', ds, xs, r, re, e, e2, e3, k⟩ := q
  refine ⟨ρ, st, ι, pvs, st', r, re, e, fun vs H1 ι1 r1 ev1 rv1 => ?_⟩
  have rd := allD_rep rv1 e2
  unfold itemsOf at e3
  split at e3 <;> first | (cases e3; done) | skip
  all_goals first | (rename_i hk _; cases hk; done) | skip
  all_goals first | (rename_i hk; cases hk; done) | skip
  rename_i m _
  rw [Option.ite_none_right_eq_some] at e3
  obtain ⟨hm2, e3⟩ := e3
  cases e3
  cases rd with
  | cons h t =>
    cases t
    cases h
    refine ⟨m, rfl, by omega, by omega, k _ H1 ι1 r1 ev1 ?_ (wk_range hm2.1)⟩
    rw [List.length_map, List.length_range, size_line]
    omega
theorem sI_enum {e : Expr} {elts : List Expr} {kk : Nat} {as : Es} {p pos tpos : Pos} (hg : Gl X "enumerate") (hm : X.mg "enumerate" = none) (hs : starEach [e] X.env = [(false, eval e X.env)]) (pa : PA X [e] (TAv T (callF T n) X.K as)) :
    PI X (.Tuple elts kk tpos) (.Call (.Name "enumerate" p) [e] [] pos) (TIv T (callF T n) X.K .enum as) := by
  refine ⟨fun pins s σ H R I q => ?_⟩
  obtain ⟨ρ, st, ι, pvs, st', ds, xs, r, re, e, e2, e3, k⟩ := q
  unfold itemsOf at e3
  split at e3 <;> first | (cases e3; done) | skip
  all_goals first | (rename_i hk _; cases hk; done) | skip
  all_goals first | (rename_i hk; cases hk; done) | skip
  · cases e3
    refine (pi_enum hg hm pa hs).run pins s σ H R I ⟨ρ, st, ι, pvs, st', r, re, e, fun vs H1 ι1 r1 ev1 rv1 => ?_⟩
    have rd := allD_rep rv1 e2
    cases rd with
    | cons h t =>
      cases t
      cases h with
      | lst h l rr => exact ⟨_, _, rfl, h.sq, k _ H1 ι1 r1 ev1 (by rw [enum_len]; exact l) (wk_enumL h rr)⟩
  · cases e3
    refine (pi_enumT hg hm pa hs).run pins s σ H R I ⟨ρ, st, ι, pvs, st', r, re, e, fun vs H1 ι1 r1 ev1 rv1 => ?_⟩
    have rd := allD_rep rv1 e2
    cases rd with
    | cons h t =>
      cases t
      cases h with
      | tup h l rr => exact ⟨_, _, rfl, h.sq, k _ H1 ι1 r1 ev1 (by rw [enum_len]; exact l) (wk_enumT h rr)⟩
theorem sI_zip {e e' : Expr} {elts : List Expr} {kk : Nat} {as : Es} {p pos tpos : Pos} (hg : Gl X "zip") (hm : X.mg "zip" = none) (hs : starEach [e, e'] X.env = (false, eval e X.env) :: starEach [e'] X.env) (hpl : (backTo pos (starEach [e'] X.env)).any (·.1) = false)
    (pa : PA X [e, e'] (TAv T (callF T n) X.K as)) : PI X (.Tuple elts kk tpos) (.Call (.Name "zip" p) [e, e'] [] pos) (TIv T (callF T n) X.K .zip as) := by
  refine (pi_zipA hg hm pa hs hpl).imp fun σ H R q => ?_
  obtain ⟨ρ, st, ι, pvs, st', ds, xs, r, re, e, e2, e3, k⟩ := q
  refine ⟨ρ, st, ι, pvs, st', r, re, e, fun vs H1 ι1 r1 ev1 rv1 => ?_⟩
  have rd := allD_rep rv1 e2
  unfold itemsOf at e3
  split at e3 <;> first | (cases e3; done) | skip
  all_goals first | (rename_i hk _; cases hk; done) | skip
  all_goals first | (rename_i hk; cases hk; done) | skip
  · cases e3
    cases rd with
    | cons h t =>
      cases t with
      | cons h' t =>
        cases t
        cases h with
        | tup h l rr =>
          cases h' with
          | tup h' l' rr' => exact ⟨_, _, _, _, rfl, .inr ⟨h.sq, h'.sq, k _ H1 ι1 r1 ev1 (by rw [List.length_map, List.length_zip]; omega) (wk_zipT h h' rr rr')⟩⟩
  · cases e3
    cases rd with
    | cons h t =>
      cases t with
      | cons h' t =>
        cases t
        cases h with
        | lst h l rr =>
          cases h' with
          | lst h' l' rr' => exact ⟨_, _, _, _, rfl, .inl ⟨h.sq, h'.sq, k _ H1 ι1 r1 ev1 (by rw [List.length_map, List.length_zip]; omega) (wk_zipL h h' rr rr')⟩⟩
end
end Thr
/-! Targets; comprehensions. -/
namespace Thr
open PySem PySem.Spec PyProof.Rows L2
def tIdx : Tgt → List Nat
  | .one i => [i]
  | .many is => is
/-! ### slots -/
theorem wipe_set_mem {σ : L2.St} {i : Nat} {x : Option V} : ∀ {vs : List Nat}, i ∈ vs → wipe (σ.set i x) vs = wipe σ vs
  | v :: vs, h => by
    unfold wipe
    by_cases hv : i ∈ vs
    · rw [wipe_set_mem hv]
    · have e : i = v := by
        rcases List.mem_cons.mp h with z | z
        · exact z
        · exact absurd z hv
      subst e
      have go : ∀ (ws : List Nat) (σ : L2.St), i ∉ ws → wipe (σ.set i x) ws = (wipe σ ws).set i x := by
        intro ws
        induction ws with
        | nil => intro σ _; rfl
        | cons w ws ih =>
          intro σ hn
          simp only [List.mem_cons, not_or] at hn
          unfold wipe
          rw [ih σ hn.2, List.set_comm _ _ hn.1]
      rw [go vs σ hv, List.set_set]
theorem wipe_wipe (σ : L2.St) (vs : List Nat) : wipe (wipe σ vs) vs = wipe σ vs := by
  have go : ∀ (ws : List Nat) (τ : L2.St), (∀ w ∈ ws, w ∈ vs) → wipe (wipe τ ws) vs = wipe τ vs := by
    intro ws
    induction ws with
    | nil => intro τ _; rfl
    | cons w ws ih =>
      intro τ h
      show wipe ((wipe τ ws).set w none) vs = _
      rw [wipe_set_mem (h w (by simp)), ih τ fun z hz => h z (by simp [hz])]
  exact go vs σ fun _ h => h
def wipeS (ρ : Slots) : List Nat → Slots
  | [] => ρ
  | i :: is => (wipeS ρ is).set i none
theorem wipeS_length (ρ : Slots) : ∀ is : List Nat, (wipeS ρ is).length = ρ.length
  | [] => rfl
  | i :: is => by unfold wipeS; rw [List.length_set, wipeS_length ρ is]
theorem wipeS_out {ρ : Slots} {j : Nat} : ∀ {is : List Nat}, j ∉ is → (wipeS ρ is)[j]? = ρ[j]?
  | [], _ => rfl
  | i :: is, h => by
    simp only [List.mem_cons, not_or] at h
    unfold wipeS
    rw [List.getElem?_set_ne (Ne.symm h.1), wipeS_out h.2]
theorem wipeS_in {ρ : Slots} {j : Nat} {pv : PV} : ∀ {is : List Nat}, j ∈ is → (wipeS ρ is)[j]? ≠ some (some pv)
  | i :: is, h => by
    unfold wipeS
    by_cases e : i = j
    · subst e
      intro z
      by_cases hl : i < (wipeS ρ is).length
      · rw [List.getElem?_set_self hl] at z; cases z
      · rw [List.getElem?_eq_none (by simpa using hl)] at z; cases z
    · rw [List.getElem?_set_ne e]
      rcases List.mem_cons.mp h with z | z
      · exact absurd z.symm e
      · exact wipeS_in z
theorem wipe_out' {σ : L2.St} {j : Nat} : ∀ {is : List Nat}, j ∉ is → (wipe σ is)[j]? = σ[j]?
  | [], _ => rfl
  | i :: is, h => by
    simp only [List.mem_cons, not_or] at h
    unfold wipe
    rw [List.getElem?_set_ne (Ne.symm h.1), wipe_out' h.2]
theorem setMany_agree : ∀ {is : List Nat} {ds : List PyData} {ρ1 ρ2 ρ' : Slots}, ρ1.length = ρ2.length → (∀ j, j ∉ is → ρ1[j]? = ρ2[j]?) → setMany is ds ρ1 = some ρ' → setMany is ds ρ2 = some ρ'
  | [], [], ρ1, ρ2, ρ', hl, ha, h => by
    have e : ρ1 = ρ2 := List.ext_getElem? fun j => ha j (by simp)
    rw [← e]; exact h
  | i :: is, d :: ds, ρ1, ρ2, ρ', hl, ha, h => by
    refine setMany_agree (is := is) (ds := ds) (ρ1 := ρ1.set i (some (.d d))) (ρ2 := ρ2.set i (some (.d d))) (by simp [hl]) (fun j hj => ?_) h
    by_cases e : i = j
    · subst e
      by_cases hi : i < ρ1.length
      · rw [List.getElem?_set_self hi, List.getElem?_set_self (by rw [← hl]; exact hi)]
      · rw [List.getElem?_eq_none (by simpa using hi), List.getElem?_eq_none (by simpa [← hl] using hi)]
    · rw [List.getElem?_set_ne e, List.getElem?_set_ne e]
      exact ha j (by simp only [List.mem_cons, not_or]; exact ⟨fun z => e z.symm, hj⟩)
  | [], _ :: _, _, _, _, _, _, h => by cases h
  | _ :: _, [], _, _, _, _, _, h => by cases h
theorem bindT_wipe {t : Tgt} {d : PyData} {ρ ρ' : Slots} (h : bindT t d ρ = some ρ') : bindT t d (wipeS ρ (tIdx t)) = some ρ' := by
  cases t with
  | one i =>
    have e : setMany [i] [d] ρ = some ρ' := h
    exact setMany_agree (is := [i]) (ds := [d]) (wipeS_length ρ [i]).symm (fun j hj => (wipeS_out hj).symm) e
  | many is =>
    cases d <;> first | (cases h; done) | skip
    exact setMany_agree (wipeS_length ρ is).symm (fun j hj => (wipeS_out hj).symm) (show setMany is _ ρ = some ρ' from h)
section
variable {K : PySem.W.Frag} {H : Hp} {ι : Wld} {σ : L2.St} {ρ : Slots}
theorem RepE.set (re : RepE K H ι σ ρ) {v : V} {pv : PV} (r : RepV K H ι v pv) (i : Nat) : RepE K H ι (σ.set i (some v)) (ρ.set i (some pv)) := by
  refine ⟨by simp [re.len], fun j q hq => ?_⟩
  by_cases e : i = j
  · subst e
    have hi : i < ρ.length := by
      have := (List.getElem?_eq_some_iff.mp hq).1
      simpa using this
    rw [List.getElem?_set_self hi] at hq
    cases hq
    exact ⟨v, List.getElem?_set_self (by rw [re.len]; exact hi), r⟩
  · rw [List.getElem?_set_ne e] at hq
    obtain ⟨u, h1, h2⟩ := re.at_ j q hq
    exact ⟨u, by rw [List.getElem?_set_ne e]; exact h1, h2⟩
theorem RepE.wipe (re : RepE K H ι σ ρ) (is : List Nat) : RepE K H ι (L2.wipe σ is) (wipeS ρ is) := by
  refine ⟨by rw [wipe_length, wipeS_length, re.len], fun j q hq => ?_⟩
  by_cases hj : j ∈ is
  · exact absurd hq (wipeS_in hj)
  · rw [wipeS_out hj] at hq
    obtain ⟨u, h1, h2⟩ := re.at_ j q hq
    exact ⟨u, by rw [wipe_out' hj]; exact h1, h2⟩
end
/-! ### targets -/
def TGt (K : PySem.W.Frag) (t : Tgt) : TG := fun v σ H Q => ∃ ι d ρ ρ', RepE K H ι σ ρ ∧ RepD K H (foot ι) v d ∧ bindT t d ρ = some ρ' ∧ ∀ σ', RepE K H ι σ' ρ' → (∀ vs, (∀ i ∈ tIdx t, i ∈ vs) → wipe σ' vs = wipe σ vs) → Q σ' H
def TGts (K : PySem.W.Frag) (is : List Nat) : TGs := fun vs σ H Q => ∃ ι ds ρ ρ', RepE K H ι σ ρ ∧ RepDs K H (foot ι) vs ds ∧ setMany is ds ρ = some ρ' ∧ ∀ σ', RepE K H ι σ' ρ' → (∀ ws, (∀ i ∈ is, i ∈ ws) → wipe σ' ws = wipe σ ws) → Q σ' H
theorem _root_.L2.PG.imp {X : Cx} {e : Expr} {t t' : TG} (h : PG X e t) (i : ∀ v σ H Q, t' v σ H Q → t v σ H Q) : PG X e t' := ⟨fun pins s σ H v u Q I r q => h.run pins s σ H v u Q I r (i _ _ _ _ q)⟩
theorem _root_.L2.PGs.imp {X : Cx} {e : List Expr} {t t' : TGs} (h : PGs X e t) (i : ∀ v σ H Q, t' v σ H Q → t v σ H Q) : PGs X e t' := ⟨fun pins s σ H v u Q I r q => h.run pins s σ H v u Q I r (i _ _ _ _ q)⟩
section
variable {N : List Str} {X : Cx} {sc : KSc}
theorem pg_one (hN : X.N = N) (nd : N.Nodup) (S : ScOk sc X) {x : Str} {pos : Pos} {i : Nat} (h : chkName N sc x i = true) : PG X (.Name x pos) (gName i) := by
  have h' : (decide (N[i]? = some x) && isLoc sc x) = true := h
  rw [Bool.and_eq_true] at h'
  exact pg_name (hN ▸ nd) (by rw [hN]; exact of_decide_eq_true h'.1) (loc_of S h'.2) (S.fn x h'.2)
theorem names_each {sc : KSc} : ∀ {es : List Expr} {is : List Nat} (env : PySem.Env), chkNames N sc es is = true → (assignEach es env).length = is.length ∧ (assignEach es env).findIdx? (·.1) = none ∧ (assignEach es env).map (·.2) = es.map fun e => assign e env
  | [], [], _, _ => ⟨rfl, rfl, rfl⟩
  | .Name x p :: es, i :: is, env, h => by
    have h' : (chkName N sc x i && chkNames N sc es is) = true := h
    rw [Bool.and_eq_true] at h'
    obtain ⟨a, b, c⟩ := names_each env h'.2
    have e : assignEach (.Name x p :: es) env = (false, assign (.Name x p) env) :: assignEach es env := rfl
    rw [e]
    refine ⟨by simp [a], ?_, by simp [c]⟩
    rw [List.findIdx?_cons, b]; rfl
  | [], _ :: _, _, h => absurd h Bool.false_ne_true
  | e :: _, [], _, h => by cases e <;> exact absurd h Bool.false_ne_true
  | .BoolOp _ _ _ :: _, _ :: _, _, h => absurd h Bool.false_ne_true
  | .NamedExpr _ _ _ :: _, _ :: _, _, h => absurd h Bool.false_ne_true
  | .BinOp _ _ _ _ :: _, _ :: _, _, h => absurd h Bool.false_ne_true
  | .UnaryOp _ _ _ :: _, _ :: _, _, h => absurd h Bool.false_ne_true
  | .Lambda _ _ _ _ :: _, _ :: _, _, h => absurd h Bool.false_ne_true
  | .IfExp _ _ _ _ :: _, _ :: _, _, h => absurd h Bool.false_ne_true
  | .Dict _ _ _ :: _, _ :: _, _, h => absurd h Bool.false_ne_true
  | .Set _ _ _ :: _, _ :: _, _, h => absurd h Bool.false_ne_true
  | .ListComp _ _ _ _ :: _, _ :: _, _, h => absurd h Bool.false_ne_true
  | .SetComp _ _ _ _ :: _, _ :: _, _, h => absurd h Bool.false_ne_true
  | .DictComp _ _ _ _ _ :: _, _ :: _, _, h => absurd h Bool.false_ne_true
  | .GeneratorExp _ _ _ _ :: _, _ :: _, _, h => absurd h Bool.false_ne_true
  | .Await _ _ :: _, _ :: _, _, h => absurd h Bool.false_ne_true
  | .Yield _ _ :: _, _ :: _, _, h => absurd h Bool.false_ne_true
  | .YieldFrom _ _ :: _, _ :: _, _, h => absurd h Bool.false_ne_true
  | .Compare _ _ _ _ :: _, _ :: _, _, h => absurd h Bool.false_ne_true
  | .Call _ _ _ _ :: _, _ :: _, _, h => absurd h Bool.false_ne_true
  | .FormattedValue _ _ _ _ :: _, _ :: _, _, h => absurd h Bool.false_ne_true
  | .JoinedStr _ _ :: _, _ :: _, _, h => absurd h Bool.false_ne_true
  | .Constant _ _ _ :: _, _ :: _, _, h => absurd h Bool.false_ne_true
  | .Attribute _ _ _ :: _, _ :: _, _, h => absurd h Bool.false_ne_true
  | .Subscript _ _ _ :: _, _ :: _, _, h => absurd h Bool.false_ne_true
  | .Starred _ _ :: _, _ :: _, _, h => absurd h Bool.false_ne_true
  | .List _ _ :: _, _ :: _, _, h => absurd h Bool.false_ne_true
  | .Tuple _ _ _ :: _, _ :: _, _, h => absurd h Bool.false_ne_true
  | .Slice _ _ _ _ :: _, _ :: _, _, h => absurd h Bool.false_ne_true
theorem names_head {sc : KSc} {e : Expr} {es : List Expr} {i : Nat} {is : List Nat} (h : chkNames N sc (e :: es) (i :: is) = true) : ∃ x p, e = .Name x p ∧ chkName N sc x i = true ∧ chkNames N sc es is = true := by
  cases e <;> first | (exact absurd h Bool.false_ne_true) | skip
  rename_i x p
  have h' : (chkName N sc x i && chkNames N sc es is) = true := h
  rw [Bool.and_eq_true] at h'
  exact ⟨x, p, rfl, h'.1, h'.2⟩
theorem pgs_names (hN : X.N = N) (nd : N.Nodup) (S : ScOk sc X) : ∀ {es : List Expr} {is : List Nat}, chkNames N sc es is = true → PGs X es (TGts X.K is)
  | [], [], _ => pgs_nil.imp fun vs σ H Q q => by
    obtain ⟨ι, ds, ρ, ρ', re, rd, e, k⟩ := q
    cases ds with
    | nil =>
      cases rd
      cases e
      exact ⟨rfl, k σ re fun _ _ => rfl⟩
    | cons _ _ => cases e
  | e :: es, i :: is, h => by
    obtain ⟨x, p, rfl, h1, h2⟩ := names_head h
    obtain ⟨_, _, he1⟩ := names_each X.env h
    obtain ⟨_, _, he2⟩ := names_each X.env h2
    refine (pgs_cons (pg_one hN nd S h1) (pgs_names hN nd S h2) (by rw [he1, he2]; rfl)).imp fun vs σ H Q q => ?_
    obtain ⟨ι, ds, ρ, ρ', re, rd, e, k⟩ := q
    cases ds with
    | nil => cases e
    | cons d ds =>
      cases rd with
      | @cons v vs _ _ hv hvs =>
        refine ⟨v, vs, rfl, ι, ds, ρ.set i (some (.d d)), ρ', re.set (pv := .d d) hv i, hvs, e, fun σ' re' hw => ?_⟩
        refine k σ' re' fun ws hs => ?_
        rw [hw ws fun j hj => hs j (by simp [hj]), wipe_set_mem (hs i (by simp))]
  | [], _ :: _, h => absurd h Bool.false_ne_true
  | e :: _, [], h => by cases e <;> exact absurd h Bool.false_ne_true
theorem pg_tgt (hN : X.N = N) (nd : N.Nodup) (hc : X.calm = true) (S : ScOk sc X) {tg : Expr} {t : Tgt} (h : chkTgt N sc tg t = true) : PG X tg (TGt X.K t) := by
  unfold chkTgt at h
  split at h
  · rename_i x p i
    refine (pg_one hN nd S h).imp fun v σ H Q q => ?_
    obtain ⟨ι, d, ρ, ρ', re, rd, e, k⟩ := q
    cases e
    exact k _ (re.set (pv := .d d) rd i) fun vs hs => wipe_set_mem (hs i (by simp [tIdx]))
  · rename_i es kk p is
    obtain ⟨h1, h2, h3⟩ := names_each X.env h
    refine (pg_tup hc (pgs_names hN nd S h) h1 h2).imp fun v σ H Q q => ?_
    obtain ⟨ι, d, ρ, ρ', re, rd, e, k⟩ := q
    cases d <;> first | (cases e; done) | skip
    cases rd with
    | tup ht hl hr =>
      rename_i ds a vs
      have hlen : ds.length = is.length := by
        have go : ∀ (is : List Nat) (ds : List PyData) (ρ ρ' : Slots), setMany is ds ρ = some ρ' → ds.length = is.length := by
          intro is
          induction is with
          | nil => intro ds ρ ρ' h; cases ds <;> first | rfl | cases h
          | cons i is ih =>
            intro ds ρ ρ' h
            cases ds with
            | nil => cases h
            | cons d ds => exact congrArg (· + 1) (ih ds _ _ h)
        exact go is ds ρ ρ' e
      exact ⟨a, vs, rfl, ht.sq, by rw [hr.length, hlen], ι, ds, ρ, ρ', re, hr, e, k⟩
  · exact absurd h Bool.false_ne_true
end
end Thr
/-! Comprehensions. -/
namespace Thr
open PySem PySem.Spec PyProof.Rows L2
section
variable {K : PySem.W.Frag} {H H' H1 : Hp} {ι : Wld} {st : Store}
theorem Rel.zadd {D : Addr} {o : HO} (r : Rel K H ι st) (hD : H D = none) : Rel K (upd H D o) ⟨D :: ι.z, ι.cs⟩ st := by
  have hF : D ∉ foot ι := r.alloc.out hD
  have ex : Ext H (foot ι) (upd H D o) (foot ⟨D :: ι.z, ι.cs⟩) := fun a u h na => ⟨by rw [upd_ne (ne_of_none h hD)]; exact h, by
    show a ∉ D :: foot ι
    simp only [List.mem_cons, not_or]
    exact ⟨ne_of_none h hD, na⟩⟩
  refine ⟨r.len, fun n c h => ?_, List.nodup_cons.mpr ⟨hF, r.nd⟩, fun a ha => ?_⟩
  · obtain ⟨ca, h1, h2⟩ := r.cells n c h
    refine ⟨ca, h1, h2.mono (upd_ne fun z => h2.here (by rw [z]; exact hD)) ex⟩
  · rcases List.mem_cons.mp ha with rfl | ha
    · rw [upd_same]; intro z; cases z
    · by_cases e : a = D
      · subst e; rw [upd_same]; intro z; cases z
      · rw [upd_ne e]; exact r.zal a ha
theorem Rel.zset {D : Addr} {z : List Addr} {cs : List CA} {o : HO} (r : Rel K H ⟨D :: z, cs⟩ st) : Rel K (upd H D o) ⟨D :: z, cs⟩ st := by
  have ex : Ext H (foot ⟨D :: z, cs⟩) (upd H D o) (foot ⟨D :: z, cs⟩) := fun a u h na => ⟨by rw [upd_ne (fun e => na (by rw [e]; exact List.mem_cons_self))]; exact h, na⟩
  refine ⟨r.len, fun n c h => ?_, r.nd, fun a ha => ?_⟩
  · obtain ⟨ca, h1, h2⟩ := r.cells n c h
    refine ⟨ca, h1, h2.mono (upd_ne fun e => ?_) ex⟩
    have hm : ca.addr ∈ cs.map CA.addr := List.mem_map.mpr ⟨ca, List.mem_of_getElem? h1, rfl⟩
    exact (List.nodup_cons.mp r.nd).1 (List.mem_append_right _ (by rw [← e]; exact hm))
  · by_cases e : a = D
    · subst e; rw [upd_same]; intro z; cases z
    · rw [upd_ne e]; exact r.zal a ha
theorem foot_less {D : Addr} {z : List Addr} {cs : List CA} (H : Hp) : Ext H (foot ⟨D :: z, cs⟩) H (foot ⟨z, cs⟩) := fun a u h na => ⟨h, fun m => na (List.mem_cons_of_mem _ m)⟩
theorem Rel.zdrop {D : Addr} {z : List Addr} {cs : List CA} (r : Rel K H ⟨D :: z, cs⟩ st) : Rel K H ⟨z, cs⟩ st :=
  ⟨r.len, fun n c h => let ⟨ca, h1, h2⟩ := r.cells n c h; ⟨ca, h1, h2.mono rfl (foot_less H)⟩, (List.nodup_cons.mp r.nd).2, fun a ha => r.zal a (List.mem_cons_of_mem _ ha)⟩
theorem RepE.ext {ι' : Wld} {σ : L2.St} {ρ : Slots} (re : RepE K H ι σ ρ) (hcs : ∃ more, ι'.cs = ι.cs ++ more) (ex : Ext H (foot ι) H' (foot ι')) : RepE K H' ι' σ ρ := by
  refine ⟨re.len, fun i pv h => ?_⟩
  obtain ⟨v, h1, h2⟩ := re.at_ i pv h
  refine ⟨v, h1, ?_⟩
  cases pv with
  | d x => exact RepD.mono ex h2
  | ref m =>
    obtain ⟨ca, h3, h4⟩ := h2
    obtain ⟨more, e⟩ := hcs
    exact ⟨ca, by rw [e, List.getElem?_append_left (List.getElem?_eq_some_iff.mp h3).1]; exact h3, h4⟩
end
theorem blk_of {N : List Str} {sc : KSc} {X : Cx} {scope : Scope} {own : List (Str × Nat)} (hN : X.N = N) (S : ScOk sc X) (h : chkBlk N sc scope own = true) : BlkOk X.N X.env.scope scope own := by
  unfold chkBlk at h
  simp only [Bool.and_eq_true, List.all_eq_true, decide_eq_true_eq] at h
  obtain ⟨⟨⟨⟨h1, h2⟩, h3⟩, h4⟩, h5⟩ := h
  refine ⟨h1, h2, fun p hp => by rw [hN]; exact h3 p hp, fun y hy e => ?_, fun y hy e => ?_⟩
  · have q := h4 y hy
    simp only [e, Bool.or_eq_true, Bool.not_eq_true', beq_iff_eq] at q
    rcases q with q | q | q
    · cases q
    · exact .inl (S.keep _ _ (by decide) q)
    · rcases S.free _ q with z | z
      · exact .inr z
      · exact .inl z
  · have q := h5 y hy
    rw [Bool.or_eq_true, Bool.not_eq_true', Bool.or_eq_true] at q
    rcases q with q | q | q
    · rcases e with e | e <;> rw [e] at q <;> cases q
    · exact .inl (by simpa using q)
    · rw [Bool.not_eq_true'] at q
      exact .inr (by rw [hN]; simpa using q)
theorem sc_blk {X : Cx} {scope : Scope} {s : Shared} {H : Hp} {C : Addr} {cl : List (Str × Addr)} {fp : List Addr} (hk : scope.kind = .function) : ScOk scope.names (X.blk s H scope (compEnvC scope cl C X.env) fp) := by
  refine ⟨hk, fun x k hk h => lookup_relS_keep hk h, fun x h => ?_, fun x h => ?_⟩
  · show (relS scope X.env.scope).names.lookup x = _ ∨ (relS scope X.env.scope).names.lookup x = _
    have go : ∀ names : List (Str × NameKind), names.lookup x = some .free →
        (names.map fun (n, k) => if (k == NameKind.free && X.env.scope.kind == .function && X.env.scope.names.lookup n == some .cell) then (n, NameKind.cell) else (n, k)).lookup x = some .free ∨
        (names.map fun (n, k) => if (k == NameKind.free && X.env.scope.kind == .function && X.env.scope.names.lookup n == some .cell) then (n, NameKind.cell) else (n, k)).lookup x = some .cell := by
      intro names
      induction names with
      | nil => intro h; cases h
      | cons y r ih =>
        intro h
        obtain ⟨m, k⟩ := y
        rw [List.map_cons]
        simp only
        rw [List.lookup_cons] at h
        cases hx : x == m with
        | true =>
          rw [hx] at h
          cases h
          split
          · right; rw [List.lookup_cons, hx]
          · left; rw [List.lookup_cons, hx]
        | false =>
          rw [hx] at h
          split
          · rw [List.lookup_cons, hx]; exact ih h
          · rw [List.lookup_cons, hx]; exact ih h
    exact go scope.names h
  · unfold isLoc at h
    simp only [Bool.or_eq_true, beq_iff_eq] at h
    rcases h with h | h
    · exact .inr (lookup_relS_keep (by decide) h)
    · left
      show (scope.names.lookup x == some NameKind.cell) = true
      rw [h]; rfl
section
variable {G : Gs} {T : Tab} {n : Nat} {N : List Str} {X : Cx} {sc : KSc}
theorem ctx_blk (C : CtxX G T n N X) {scope : Scope} {s : Shared} {H : Hp} {a : Addr} {cl : List (Str × Addr)} {fp : List Addr} : CtxX G T n N (X.blk s H scope (compEnvC scope cl a X.env) fp) :=
  ⟨C.hN, C.nd, C.calm, C.room, C.consts, C.fns, C.bl⟩
def TCv (T : Tab) (O : Orc) (K : PySem.W.Frag) : Option E → TT
  | none => tYes
  | some c => TTv T O K c
theorem compL_nil {step : PyData → Store → Option (Option PyData × Store)} {s : Store} : compL step [] s = some ([], s) := rfl
theorem sE_comp (C : CtxX G T n N X) (S : ScOk sc X) {elt tg it : Expr} {ifs : List Expr} {scope : Scope} {pos : Pos} {t : Tgt} {k : IterK} {as : Es} {cond : Option E} {elt' : E}
    (hs : notSet it = true) (hb : chkBlk N sc scope (tgtOwn N t) = true) (ht : chkTgt N scope.names tg t = true) (hi : PI X tg it (TIv T (callF T n) X.K k as))
    (hc : ∀ Y, CtxX G T n N Y → ScOk scope.names Y → Y.K = X.K → PTs Y ifs (TCv T (callF T n) X.K cond)) (he : ∀ Y, CtxX G T n N Y → ScOk scope.names Y → Y.K = X.K → PE Y elt (TEv T (callF T n) X.K elt')) :
    PE X (.ListComp elt [⟨tg, it, ifs, 0⟩] scope pos) (TEv T (callF T n) X.K (.comp t k as cond elt')) ∧
    (∀ {i : Nat} {y : Str} {py spos : Pos}, N[i]? = some y → sc.lookup y = some .local → (py.line == pos.line) = true → (scope.names.any fun (n, k) => n == y && (k == .local || k == .cell)) = false →
      PS X (.Assign [.Name y py] (.ListComp elt [⟨tg, it, ifs, 0⟩] scope pos) spos) (tAsg (TEv T (callF T n) X.K (.comp t k as cond elt')) (gName i))) := by
  have own : (tgtOwn N t).map (·.2) = tIdx t := by
    cases t with
    | one i => rfl
    | many is => simp [tgtOwn, tIdx, Function.comp_def]
  have fold : ∀ x, foldedSetIterable it X.env x = pure x := by
    intro x
    cases it <;> first | rfl | (exact absurd hs Bool.false_ne_true)
  have key : ∀ σ H Q, TEv T (callF T n) X.K (.comp t k as cond elt') σ H Q → tLc (TIv T (callF T n) X.K k as) (TGt X.K t) (TCv T (callF T n) X.K cond) (TEv T (callF T n) X.K elt') ((tgtOwn N t).map (·.2)) σ H Q := by
    intro σ H Q q
    rw [own]
    obtain ⟨ρ, st, ι, pv, st', r, re, e, kk⟩ := q
    simp only [evE, Option.bind_eq_some_iff, Option.map_eq_some_iff, Prod.mk.injEq] at e
    obtain ⟨⟨pvs, s1⟩, e1, ds, e2, xs, e3, ⟨ys, s2⟩, e4, rfl, rfl⟩ := e
    refine ⟨ρ, st, ι, pvs, s1, ds, xs, r, re, e1, e2, e3, fun J H1 w1 r1 ev1 hlen wk D hD => ?_⟩
    have hDF : D ∉ foot w1 := r1.alloc.out hD
    generalize hstep : (fun (x : PyData) (s : Store) => (bindT t x ρ).bind fun ρ' => match cond with
        | some c => (evE T (callF T n) c ρ' s).bind fun r1 => (asB r1.1).bind fun b => if b then (evE T (callF T n) elt' ρ' r1.2).bind fun r2 => (asD r2.1).map fun y => (some y, r2.2) else some (none, r1.2)
        | none => (evE T (callF T n) elt' ρ' s).bind fun r2 => (asD r2.1).map fun y => (some y, r2.2)) = step at e4
    refine lc_it wk (fun i H => ∃ cs si acc accV rest, Rel X.K H ⟨D :: w1.z, cs⟩ si ∧ H D = some (.lst accV) ∧ RepDs X.K H (foot ⟨D :: w1.z, cs⟩) accV acc ∧ Ev H1 w1 H ⟨w1.z, cs⟩ ∧
      compL step (xs.drop i) si = some (rest, s2) ∧ acc ++ rest = ys ∧ acc.length ≤ i) ?h0 ?hG ?hs ?hd
    case h0 =>
      refine ⟨w1.cs, s1, [], [], ys, r1.zadd hD, upd_same, .nil, ?_, ?_, rfl, Nat.le_refl _⟩
      · have g := Grow.upd hD (.lst [])
        exact ⟨⟨[], by simp⟩, g.ext _, fun a ha => grow_ne g (r1.zal a ha)⟩
      · rw [List.drop_zero]; exact e4
    case hG =>
      rintro i H _ ⟨cs, si, acc, accV, rest, _, _, _, ev, _⟩
      exact ⟨_, ev.ext⟩
    case hs =>
      rintro i x H H' hi' ⟨cs, si, acc, accV, rest, ri, hDi, hacc, ev, hrest, hys, hal⟩ ⟨gr, d, hd, hrep⟩
      have hDiff : Ext H1 (foot w1) H (foot ⟨D :: w1.z, cs⟩) := fun a u h na => by
        obtain ⟨h1, h2⟩ := ev.ext a u h na
        refine ⟨h1, ?_⟩
        show a ∉ D :: foot ⟨w1.z, cs⟩
        simp only [List.mem_cons, not_or]
        exact ⟨ne_of_none h hD, h2⟩
      have rd : RepD X.K H' (foot ⟨D :: w1.z, cs⟩) x d := hrep _ hDiff ri.alloc
      have rH' := ri.grow gr
      have evH' := ri.ev gr
      have hDi' : H' D = some (.lst accV) := gr _ _ hDi
      have hacc' : RepDs X.K H' (foot ⟨D :: w1.z, cs⟩) accV acc := hacc.mono (gr.ext _)
      have ev' : Ev H1 w1 H' ⟨w1.z, cs⟩ := ev.trans ⟨⟨[], by simp⟩, gr.ext _, fun a ha => grow_ne gr (ri.zal a (List.mem_cons_of_mem _ ha))⟩
      -- the names
      have reH' : RepE X.K H' ⟨D :: w1.z, cs⟩ σ ρ := by
        have q1 := re.mono ev1
        obtain ⟨more, hm⟩ := ev'.pre
        refine q1.ext ⟨more, ?_⟩ (hDiff.trans (gr.ext _))
        have := congrArg Wld.cs hm
        exact this
      -- the step
      have hdr : xs.drop i = d :: xs.drop (i + 1) := by
        have hi2 : i < xs.length := (List.getElem?_eq_some_iff.mp hd).1
        rw [List.drop_eq_getElem_cons hi2]
        rw [List.getElem?_eq_getElem hi2] at hd
        rw [Option.some.inj hd]
      rw [hdr] at hrest
      simp only [compL, Option.bind_eq_some_iff, Option.map_eq_some_iff, Prod.mk.injEq] at hrest
      obtain ⟨⟨o, s3⟩, hst, ⟨rest', s4⟩, hrest', hr1, hr2⟩ := hrest
      simp only at hrest' hr1 hr2
      subst hr2
      rw [← hstep] at hst
      simp only [Option.bind_eq_some_iff] at hst
      obtain ⟨ρ', hbt, hst⟩ := hst
      refine ⟨⟨D :: w1.z, cs⟩, d, wipeS ρ (tIdx t), ρ', reH'.wipe _, rd, bindT_wipe hbt, fun σ2 re2 hw => ⟨?_, ?_⟩⟩
      · rw [hw (tIdx t) fun _ h => h, wipe_wipe]
      -- the element, behind the test
      have elm : ∀ {H3 : Hp} {w3 : Wld} {s : Store}, Rel X.K H3 w3 s → Ev H' ⟨D :: w1.z, cs⟩ H3 w3 → ((evE T (callF T n) elt' ρ' s).bind fun r2 => (asD r2.1).map fun y => (some y, r2.2)) = some (o, s3) →
          TEv T (callF T n) X.K elt' σ2 H3 fun y H4 => ∃ acc, H4 D = some (.lst acc) ∧ acc.length < sizeLine ∧ ∃ cs si acc' accV rest, Rel X.K (upd H4 D (.lst (acc ++ [y]))) ⟨D :: w1.z, cs⟩ si ∧ (upd H4 D (.lst (acc ++ [y]))) D = some (.lst accV) ∧
            RepDs X.K (upd H4 D (.lst (acc ++ [y]))) (foot ⟨D :: w1.z, cs⟩) accV acc' ∧ Ev H1 w1 (upd H4 D (.lst (acc ++ [y]))) ⟨w1.z, cs⟩ ∧ compL step (xs.drop (i + 1)) si = some (rest, s4) ∧ acc' ++ rest = ys ∧ acc'.length ≤ i + 1 := by
        intro H3 w3 s r3 ev3 hst
        simp only [Option.bind_eq_some_iff, Option.map_eq_some_iff, Prod.mk.injEq] at hst
        obtain ⟨⟨py, s5⟩, he, yd, hy, ho, hs5⟩ := hst
        simp only at hs5
        subst ho hs5
        refine ⟨ρ', s, w3, py, s5, r3, re2.mono ev3, he, fun y H4 w4 r4 ev4 rv4 => ?_⟩
        have evT := ev3.trans ev4
        have hpy : py = .d yd := by cases py <;> first | (cases hy; rfl) | (cases hy)
        subst hpy
        obtain ⟨more, hw4⟩ := evT.pre
        subst hw4
        have hD4 : H4 D = some (.lst accV) := (evT.zk D List.mem_cons_self).trans hDi'
        have hlt : accV.length < sizeLine := by
          rw [hacc.length]
          have : i < xs.length := (List.getElem?_eq_some_iff.mp hd).1
          omega
        refine ⟨accV, hD4, hlt, cs ++ more, s5, acc ++ [yd], accV ++ [y], rest', r4.zset, upd_same, ?_, ?_, hrest', ?_, by rw [List.length_append, List.length_singleton]; omega⟩
        · have ex : Ext H4 (foot ⟨D :: w1.z, cs ++ more⟩) (upd H4 D (.lst (accV ++ [y]))) (foot ⟨D :: w1.z, cs ++ more⟩) := fun a u h na => ⟨by rw [upd_ne (fun e => na (by rw [e]; exact List.mem_cons_self))]; exact h, na⟩
          exact ((hacc'.mono evT.ext).mono ex).append (.cons (RepD.mono ex rv4) .nil)
        · obtain ⟨m1, hm1⟩ := ev'.pre
          have e1 : cs = w1.cs ++ m1 := congrArg Wld.cs hm1
          refine ⟨⟨m1 ++ more, by rw [e1, List.append_assoc]⟩, fun a u h na => ?_, fun a ha => ?_⟩
          · have hne : a ≠ D := ne_of_none h hD
            obtain ⟨h1, h2⟩ := hDiff a u h na
            obtain ⟨h3, h4⟩ := evT.ext a u (gr _ _ h1) h2
            exact ⟨by rw [upd_ne hne]; exact h3, fun m => h4 (List.mem_cons_of_mem _ m)⟩
          · have hne : a ≠ D := fun z => hDF (by rw [← z]; exact List.mem_append_left _ ha)
            rw [upd_ne hne]
            exact (evT.zk a (List.mem_cons_of_mem _ ha)).trans (ev'.zk a ha)
        · rw [← hys, ← hr1, List.append_assoc]; rfl
      cases cond with
      | none =>
        show TEv T (callF T n) X.K elt' σ2 H' _
        exact elm rH' (.refl _ _) hst
      | some c =>
        simp only [Option.bind_eq_some_iff] at hst
        obtain ⟨⟨pc, s6⟩, hc1, b, hc2, hst⟩ := hst
        obtain rfl := asB_inv hc2
        refine ⟨ρ', si, ⟨D :: w1.z, cs⟩, b, s6, rH', re2, hc1, fun H3 w3 r3 ev3 => ?_⟩
        cases b with
        | true =>
          rw [if_pos rfl] at hst ⊢
          exact elm r3 ev3 hst
        | false =>
          simp only [Bool.false_eq_true, if_false, Option.some.injEq, Prod.mk.injEq] at hst ⊢
          obtain ⟨rfl, rfl⟩ := hst
          obtain ⟨more, hw3⟩ := ev3.pre
          subst hw3
          refine ⟨cs ++ more, s6, acc, accV, rest', r3, (ev3.zk D List.mem_cons_self).trans hDi', hacc'.mono ev3.ext, ?_, hrest', ?_, by omega⟩
          · refine ev'.trans ⟨⟨more, rfl⟩, fun a u h na => ?_, fun a ha => ev3.zk a (List.mem_cons_of_mem _ ha)⟩
            by_cases hne : a = D
            · subst hne
              refine ⟨(ev3.zk a List.mem_cons_self).trans h, fun m => ?_⟩
              exact (List.nodup_cons.mp r3.nd).1 m
            · obtain ⟨h3, h4⟩ := ev3.ext a u h (by
                show a ∉ D :: foot ⟨w1.z, cs⟩
                simp only [List.mem_cons, not_or]
                exact ⟨hne, na⟩)
              exact ⟨h3, fun m => h4 (List.mem_cons_of_mem _ m)⟩
          · rw [← hys, ← hr1]
    case hd =>
      rintro H ⟨cs, si, acc, accV, rest, ri, hDi, hacc, ev, hrest, hys, hal⟩
      rw [List.drop_length] at hrest
      cases hrest
      rw [List.append_nil] at hys
      subst hys
      refine kk _ H ⟨w1.z, cs⟩ ri.zdrop (ev1.trans ev) ?_
      exact .lst (.inl ⟨.inl hDi, (List.nodup_cons.mp ri.nd).1⟩) (by show acc.length ≤ sizeLine; omega) (hacc.mono (foot_less H))
  have hbk := blk_of C.hN S hb
  have ct : ∀ (s : Shared) (H : Hp) (a : Addr) (cl : List (Str × Addr)) (fp : List Addr), CtxX G T n N (X.blk s H scope (compEnvC scope cl a X.env) fp) := fun s H a cl fp => ctx_blk C
  refine ⟨(pe_lc C.calm (C.hN ▸ C.nd) hi hbk (fun s H a cl fp => pg_tgt (ct s H a cl fp).hN C.nd C.calm (sc_blk hbk.kind) ht) (fun s H a cl fp => hc _ (ct s H a cl fp) (sc_blk hbk.kind) rfl)
    (fun s H a cl fp => he _ (ct s H a cl fp) (sc_blk hbk.kind) rfl) fold).imp key, fun {i y py spos} hy hl hline hown => ?_⟩
  refine (ps_setLc (i := i) C.calm (C.hN ▸ C.nd) (by rw [C.hN]; exact hy) (S.keep _ _ (by decide) hl) (sw_true S.kind (S.keep _ _ (by decide) hl) hline hown) hi hbk (fun s H a cl fp => pg_tgt (ct s H a cl fp).hN C.nd C.calm (sc_blk hbk.kind) ht) (fun s H a cl fp => hc _ (ct s H a cl fp) (sc_blk hbk.kind) rfl)
    (fun s H a cl fp => he _ (ct s H a cl fp) (sc_blk hbk.kind) rfl) fold).imp fun D σ H q => key σ H _ q
end
end Thr
/-! Every expression that is checked. -/
namespace Thr
open PySem PySem.Spec PyProof.Rows L2
section
variable {G : Gs} {T : Tab} {n : Nat} {N : List Str}
theorem tt_val {X : Cx} {e : Expr} {ir : E} (h : PE X e (TEv T (callF T n) X.K ir)) (he : ∀ whole, isTrue e X.env whole = (do let v ← whole; standAt e.pos; holding [v] (truthy v))) : PT X e (TTv T (callF T n) X.K ir) :=
  (pt_val h he).imp fun σ H Q q => tt_of q
theorem both {X : Cx} {e : Expr} {ir : E} (h : PE X e (TEv T (callF T n) X.K ir)) (he : ∀ whole, isTrue e X.env whole = (do let v ← whole; standAt e.pos; holding [v] (truthy v))) : PE X e (TEv T (callF T n) X.K ir) ∧ PT X e (TTv T (callF T n) X.K ir) := ⟨h, tt_val h he⟩
theorem units_of {X : Cx} (C : CtxX G T n N X) : X.A.units + 64 < cLine := C.room.units
theorem sI {X : Cx} {sc : KSc} (C : CtxX G T n N X) (S : ScOk sc X) (c : Expr → E → Bool) (hc : ∀ e ir, c e ir = true → PE X e (TEv T (callF T n) X.K ir)) {tg it : Expr} {k : IterK} {as : Es} (h : chkIter G sc c tg it k as = true) :
    PI X tg it (TIv T (callF T n) X.K k as) := by
  have one : ∀ {args : List Expr}, chkEs c args as = true → ∀ {R : Prop}, (∀ e, args = [e] → PA X [e] (TAv T (callF T n) X.K as) → starEach [e] X.env = [(false, eval e X.env)] → R) → (args.length ≠ 1 → R) → R := by
    intro args ha R h1 h2
    obtain ⟨p1, p2⟩ := PAe (n := n) (T := T) X c hc ha
    match args, p1, p2, h1, h2 with
    | [], p1, p2, h1, h2 => exact h2 (by simp)
    | [e], p1, p2, h1, h2 => exact h1 e rfl p1 (star_cons p2 _)
    | _ :: _ :: _, p1, p2, h1, h2 => exact h2 (by simp)
  have lens : ∀ {args : List Expr} {as : Es} {ρ : Slots} {st st' : Store} {pvs : List PV}, chkEs c args as = true → evEs T (callF T n) as ρ st = some (pvs, st') → pvs.length = args.length := by
    intro args
    induction args with
    | nil => intro as ρ st st' pvs h e; cases as <;> first | (exact absurd h Bool.false_ne_true) | (cases e; rfl)
    | cons a args ih =>
      intro as ρ st st' pvs h e
      cases as with
      | nil => exact absurd h Bool.false_ne_true
      | cons b bs =>
        have h' : (notStar a && c a b && chkEs c args bs) = true := h
        rw [Bool.and_eq_true, Bool.and_eq_true] at h'
        simp only [evEs, Option.bind_eq_some_iff, Option.map_eq_some_iff, Prod.mk.injEq] at e
        obtain ⟨⟨pv, s1⟩, _, ⟨⟨ps, s2⟩, e2, rfl, rfl⟩⟩ := e
        exact congrArg (· + 1) (ih h'.2 e2)
  have allDlen : ∀ {pvs : List PV} {ds : List PyData}, allD pvs = some ds → ds.length = pvs.length := by
    intro pvs
    induction pvs with
    | nil => intro ds h; cases h; rfl
    | cons p ps ih =>
      intro ds h
      cases p with
      | ref m => cases h
      | d x =>
        simp only [allD, Option.map_eq_some_iff] at h
        obtain ⟨ts, h, rfl⟩ := h
        exact congrArg (· + 1) (ih h)
  -- a wrong number of arguments never comes to items
  have never : ∀ {args : List Expr}, chkEs c args as = true → (∀ ds xs, itemsOf k ds = some xs → ds.length ≠ args.length) → PI X tg it (TIv T (callF T n) X.K k as) := by
    intro args ha hn
    refine ⟨fun pins s σ H R I q => ?_⟩
    obtain ⟨ρ, st, ι, pvs, st', ds, xs, r, re, e, e2, e3, kk⟩ := q
    exact absurd ((allDlen e2).trans (lens ha e)) (hn ds xs e3)
  cases k with
  | seq =>
    clear one never
    unfold chkIter at h
    rw [Bool.and_eq_true] at h
    obtain ⟨_, h2⟩ := h
    split at h2
    · exact sI_seq (hc _ _ h2)
    · exact absurd h2 Bool.false_ne_true
  | range =>
    simp only [chkIter] at h
    split at h
    · rename_i x p args pos
      simp only [Bool.and_eq_true, decide_eq_true_eq] at h
      obtain ⟨⟨rfl, h2⟩, h3⟩ := h
      obtain ⟨g1, g2, _, _⟩ := bl_of C S h2
      refine one h3 (fun e he pa hs => ?_) fun hne => never h3 fun ds xs hx => ?_
      · subst he
        exact sI_range g1 g2 hs pa
      · intro z
        unfold itemsOf at hx
        split at hx <;> first | (cases hx; done) | skip
        all_goals first | (rename_i hk _; cases hk; done) | skip
        all_goals first | (rename_i hk; cases hk; done) | skip
        exact hne z.symm
    · exact absurd h Bool.false_ne_true
  | enum =>
    simp only [chkIter] at h
    split at h
    · rename_i x p args pos
      simp only [Bool.and_eq_true, decide_eq_true_eq] at h
      obtain ⟨⟨⟨h1, rfl⟩, h2⟩, h3⟩ := h
      obtain ⟨g1, g2, _, _⟩ := bl_of C S h2
      cases tg <;> first | (exact absurd h1 Bool.false_ne_true) | skip
      refine one h3 (fun e he pa hs => ?_) fun hne => never h3 fun ds xs hx => ?_
      · subst he
        exact sI_enum g1 g2 hs pa
      · intro z
        unfold itemsOf at hx
        split at hx <;> first | (cases hx; done) | skip
        all_goals first | (rename_i hk _; cases hk; done) | skip
        all_goals first | (rename_i hk; cases hk; done) | skip
        all_goals exact hne z.symm
    · exact absurd h Bool.false_ne_true
  | zip =>
    simp only [chkIter] at h
    split at h
    · rename_i x p args pos
      simp only [Bool.and_eq_true, decide_eq_true_eq] at h
      obtain ⟨⟨⟨h1, rfl⟩, h2⟩, h3⟩ := h
      obtain ⟨g1, g2, _, _⟩ := bl_of C S h2
      cases tg <;> first | (exact absurd h1 Bool.false_ne_true) | skip
      obtain ⟨p1, p2⟩ := PAe (n := n) (T := T) X c hc h3
      have nv : args.length ≠ 2 → PI X (.Tuple _ _ _) (.Call (.Name "zip" p) args [] pos) (TIv T (callF T n) X.K .zip as) := fun hne => never h3 fun ds xs hx => by
        intro z
        unfold itemsOf at hx
        split at hx <;> first | (cases hx; done) | skip
        all_goals first | (rename_i hk _; cases hk; done) | skip
        all_goals first | (rename_i hk; cases hk; done) | skip
        all_goals exact hne z.symm
      match args, p1, p2, nv with
      | [], p1, p2, nv => exact nv (by simp)
      | [e], p1, p2, nv => exact nv (by simp)
      | [e, e'], p1, p2, nv =>
        have hs := star_cons p2 X.env
        exact sI_zip g1 g2 hs (plain_of fun y hy => p2 X.env y (by rw [hs]; exact List.mem_cons_of_mem _ hy)) p1
      | _ :: _ :: _ :: _, p1, p2, nv => exact nv (by simp)
    · exact absurd h Bool.false_ne_true
theorem chkEs_nil {c : Expr → E → Bool} {es : List Expr} {as : Es} (h : chkEs c es as = true) (he : es = []) : as = .nil := by
  subst he
  cases as with
  | nil => rfl
  | cons _ _ => exact absurd h Bool.false_ne_true
theorem chkEs_one {c : Expr → E → Bool} {es : List Expr} {a : E} (h : chkEs c es (.cons a .nil) = true) : ∃ e, es = [e] ∧ notStar e = true ∧ c e a = true := by
  cases es with
  | nil => exact absurd h Bool.false_ne_true
  | cons e es =>
    have h' : (notStar e && c e a && chkEs c es .nil) = true := h
    rw [Bool.and_eq_true, Bool.and_eq_true] at h'
    cases es with
    | nil => exact ⟨e, rfl, h'.1.1, h'.1.2⟩
    | cons _ _ => exact absurd h'.2 Bool.false_ne_true
theorem comp_inv {m : Nat} {sc : KSc} {elt : Expr} {gens : List Comprehension} {scope : Scope} {pos : Pos} {ir : E} (h : chkE G N (m + 1) sc (.ListComp elt gens scope pos) ir = true) :
    ∃ tg it ifs t k as cond elt', gens = [⟨tg, it, ifs, 0⟩] ∧ ir = .comp t k as cond elt' ∧ notSet it = true ∧ chkIter G sc (chkE G N m sc) tg it k as = true ∧ chkBlk N sc scope (tgtOwn N t) = true ∧ chkTgt N scope.names tg t = true ∧
      (match ifs, cond with
          | [], none => true
          | [c], some c' => chkE G N m scope.names c c'
          | _, _ => false) = true ∧ chkE G N m scope.names elt elt' = true := by
  simp only [chkE] at h
  split at h
  · rename_i tg it ifs asy t k as cond elt'
    simp only [Bool.and_eq_true, decide_eq_true_eq] at h
    obtain ⟨⟨⟨⟨⟨⟨rfl, h2⟩, h3⟩, h4⟩, h5⟩, h6⟩, h7⟩ := h
    exact ⟨tg, it, ifs, t, k, as, cond, elt', rfl, rfl, h2, h3, h4, h5, h6, h7⟩
  · exact absurd h Bool.false_ne_true
theorem comp_parts {X : Cx} {sc : KSc} (C : CtxX G T n N X) (S : ScOk sc X) {m : Nat} {elt tg it : Expr} {ifs : List Expr} {scope : Scope} {pos : Pos} {t : Tgt} {k : IterK} {as : Es} {cond : Option E} {elt' : E}
    (h2 : chkIter G sc (chkE G N m sc) tg it k as = true) (h3 : chkBlk N sc scope (tgtOwn N t) = true) (h4 : chkTgt N scope.names tg t = true) (h1 : notSet it = true)
    (h5 : (match ifs, cond with
          | [], none => true
          | [c], some c' => chkE G N m scope.names c c'
          | _, _ => false) = true) (h6 : chkE G N m scope.names elt elt' = true)
    (ihE : ∀ e ir, chkE G N m sc e ir = true → PE X e (TEv T (callF T n) X.K ir))
    (ihB : ∀ e ir, chkE G N m scope.names e ir = true → ∀ Y, CtxX G T n N Y → ScOk scope.names Y → PE Y e (TEv T (callF T n) Y.K ir) ∧ PT Y e (TTv T (callF T n) Y.K ir)) :
    PE X (.ListComp elt [⟨tg, it, ifs, 0⟩] scope pos) (TEv T (callF T n) X.K (.comp t k as cond elt')) ∧
    (∀ {i : Nat} {y : Str} {py spos : Pos}, N[i]? = some y → sc.lookup y = some .local → (py.line == pos.line) = true → (scope.names.any fun (n, k) => n == y && (k == .local || k == .cell)) = false →
      PS X (.Assign [.Name y py] (.ListComp elt [⟨tg, it, ifs, 0⟩] scope pos) spos) (tAsg (TEv T (callF T n) X.K (.comp t k as cond elt')) (gName i))) := by
  refine sE_comp C S h1 h3 h4 (sI C S _ ihE h2) (fun Y CY SY hK => ?_) fun Y CY SY hK => ?_
  · split at h5
    · exact pts_nil
    · have q := (ihB _ _ h5 Y CY SY).2
      rw [hK] at q
      exact pts_one q
    · exact absurd h5 Bool.false_ne_true
  · have q := (ihB _ _ h6 Y CY SY).1
    rw [hK] at q
    exact q
theorem sE : ∀ (m : Nat) (sc : KSc) (e : Expr) (ir : E), chkE G N m sc e ir = true → ∀ X, CtxX G T n N X → ScOk sc X → PE X e (TEv T (callF T n) X.K ir) ∧ PT X e (TTv T (callF T n) X.K ir)
  | 0, _, _, _, h => absurd h Bool.false_ne_true
  | m + 1, sc, e, ir, h => by
    intro X C S
    have ih : ∀ e ir, chkE G N m sc e ir = true → PE X e (TEv T (callF T n) X.K ir) ∧ PT X e (TTv T (callF T n) X.K ir) := fun e ir h => sE m sc e ir h X C S
    have ihE : ∀ e ir, chkE G N m sc e ir = true → PE X e (TEv T (callF T n) X.K ir) := fun e ir h => (ih e ir h).1
    cases e with
    | Name x pos =>
      cases ir <;> first | (exact absurd h Bool.false_ne_true) | skip
      · exact both (sE_var C S h) fun _ => rfl
      · exact both (sE_glob C S h) fun _ => rfl
    | Constant c k pos =>
      cases ir <;> first | (exact absurd h Bool.false_ne_true) | skip
      exact both (sE_const h) fun _ => rfl
    | Tuple es k pos =>
      cases ir <;> first | (exact absurd h Bool.false_ne_true) | skip
      rename_i p as
      cases p <;> first | (exact absurd h Bool.false_ne_true) | skip
      exact both (sE_tup (PAe X _ ihE h).1) fun _ => rfl
    | List es pos =>
      cases ir <;> first | (exact absurd h Bool.false_ne_true) | skip
      rename_i p as
      cases p <;> first | (exact absurd h Bool.false_ne_true) | skip
      · exact both (sE_lst (PAe X _ ihE h).1) fun _ => rfl
      · exact both (sE_box (PAe X _ ihE h).1) fun _ => rfl
    | BinOp a op b pos =>
      simp only [chkE] at h
      split at h
      · rename_i p a' b'
        simp only [Bool.and_eq_true, decide_eq_true_eq] at h
        exact both (sE_bin (binOp_ok h.1.1) (ihE _ _ h.1.2) (ihE _ _ h.2)) fun _ => rfl
      · exact absurd h Bool.false_ne_true
    | UnaryOp op a pos =>
      simp only [chkE] at h
      split at h
      · exact sE_not (ih _ _ h).1 (ih _ _ h).2
      · refine both ((pe_un (UnR.imp prim_neg fun x H Q q => PrR.rd (p := .neg) rfl q) (ihE _ _ h)).imp fun σ H Q q => ea1 (prim_unfold q)) fun _ => rfl
      · exact absurd h Bool.false_ne_true
    | BoolOp op es pos =>
      simp only [chkE] at h
      split at h
      · by_cases hne : es = []
        · subst hne
          have := chkEs_nil h rfl
          subst this
          exact ⟨⟨fun pins s σ H Q I q => by
            obtain ⟨ρ, st, ι, pv, st', r, re, e, k⟩ := q
            simp [evE, evAnd] at e⟩, ⟨fun pins s σ H Q I q => by
            obtain ⟨ρ, st, ι, pv, st', r, re, e, k⟩ := q
            simp [evE, evAnd] at e⟩⟩
        · obtain ⟨a, b⟩ := sE_and _ ih h hne (pos := pos)
          exact ⟨a, b.pt⟩
      · by_cases hne : es = []
        · subst hne
          have := chkEs_nil h rfl
          subst this
          exact ⟨⟨fun pins s σ H Q I q => by
            obtain ⟨ρ, st, ι, pv, st', r, re, e, k⟩ := q
            simp [evE, evOr] at e⟩, ⟨fun pins s σ H Q I q => by
            obtain ⟨ρ, st, ι, pv, st', r, re, e, k⟩ := q
            simp [evE, evOr] at e⟩⟩
        · obtain ⟨a, b⟩ := sE_or _ ih h hne (pos := pos)
          exact ⟨a, b.pt⟩
      · exact absurd h Bool.false_ne_true
    | Compare a ops bs pos =>
      simp only [chkE] at h
      split at h
      · split at h
        · rename_i op b p a' b'
          simp only [Bool.and_eq_true, decide_eq_true_eq] at h
          exact sE_cmp (cmpOp_ok (units_of C) h.1.1.1) (mark_of h.1.1.2) (ihE _ _ h.1.2) (ihE _ _ h.2)
        · rename_i op b p a' _
          rw [Bool.and_eq_true] at h
          obtain ⟨h1, h2⟩ := h
          split at h1
          · have hp := of_decide_eq_true h1
            subst hp
            exact sE_isN (ihE _ _ h2)
          · have hp := of_decide_eq_true h1
            subst hp
            exact sE_notN (ihE _ _ h2)
          · exact absurd h1 Bool.false_ne_true
        · exact absurd h Bool.false_ne_true
      · split at h
        · rename_i o1 o2 b c p q a' b' c'
          simp only [Bool.and_eq_true, decide_eq_true_eq] at h
          obtain ⟨⟨⟨⟨⟨⟨h1, h2⟩, h3⟩, h4⟩, h5⟩, h6⟩, h7⟩ := h
          exact sE_chain (cmpOp_ok (units_of C) h1) (cmpOp_ok (units_of C) h2) (mark_of (op := _) h4) (ihE _ _ h5) (ihE _ _ h6) (ihE _ _ h7)
        · exact absurd h Bool.false_ne_true
      · exact absurd h Bool.false_ne_true
    | Call f args kws pos =>
      simp only [chkE, Bool.and_eq_true] at h
      obtain ⟨h0, h⟩ := h
      have hk : kws = [] := by simpa using h0
      subst hk
      cases f with
      | Name x p =>
        simp only at h
        split at h
        · rename_i i as
          simp only [Bool.and_eq_true, decide_eq_true_eq] at h
          obtain ⟨⟨⟨h1, h2⟩, h3⟩, h4⟩ := h
          obtain ⟨p1, p2⟩ := PAe X _ ihE h4
          exact both (sE_call C S h1 h2 h3 p1 p2 (chkEs_nil h4)) fun _ => rfl
        · rename_i t a'
          simp only [Bool.and_eq_true, decide_eq_true_eq] at h
          obtain ⟨⟨⟨rfl, h2⟩, h3⟩, h4⟩ := h
          split at h4
          · rename_i a y p2
            simp only [Bool.and_eq_true, decide_eq_true_eq] at h4
            obtain ⟨⟨rfl, h5⟩, h6⟩ := h4
            exact both (sE_isi C S h2 h3 h5 (ihE _ _ h6)) fun _ => rfl
          · exact absurd h4 Bool.false_ne_true
        · rename_i pr a' _
          simp only [Bool.and_eq_true, decide_eq_true_eq] at h
          obtain ⟨⟨h1, h2⟩, h3⟩ := h
          obtain ⟨e, rfl, _, _⟩ := chkEs_one h3
          obtain ⟨p1, p2⟩ := PAe X _ ihE h3
          exact both (sE_blt C S h1 h2 p1 p2) fun _ => rfl
        · exact absurd h Bool.false_ne_true
      | Attribute o mm apos =>
        simp only at h
        split at h
        · rename_i p o' a'
          simp only [Bool.and_eq_true, decide_eq_true_eq] at h
          obtain ⟨⟨⟨⟨h1, h2⟩, h3⟩, h4⟩, h5⟩ := h
          obtain ⟨p1, p2⟩ := PAe X _ ihE h5
          obtain ⟨e, rfl, h6, h7⟩ := chkEs_one h5
          cases p <;> first | (cases h1; done) | (simp only [metOf, Option.some.injEq] at h1; subst h1)
          · exact both (sE_join h2 h3 h6 (ihE _ _ h4) (ihE _ _ h7)) fun _ => rfl
          · exact both (sE_append h2 h3 h6 (ihE _ _ h4) p1) fun _ => rfl
        · exact absurd h Bool.false_ne_true
      | _ => exact absurd h Bool.false_ne_true
    | Subscript a s pos =>
      cases s with
      | Slice lo hi st p2 =>
        simp only [chkE, Bool.and_eq_true] at h
        obtain ⟨h0, h⟩ := h
        have hst : st = none := by simpa using h0
        subst hst
        split at h
        · exact both (sE_slcN (ihE _ _ h)) fun _ => rfl
        · rw [Bool.and_eq_true] at h
          exact both (sE_slcL (ihE _ _ h.1) (ihE _ _ h.2)) fun _ => rfl
        · rw [Bool.and_eq_true] at h
          exact both (sE_slcH (ihE _ _ h.1) (ihE _ _ h.2)) fun _ => rfl
        · rw [Bool.and_eq_true, Bool.and_eq_true] at h
          exact both (sE_slcLH (ihE _ _ h.1.1) (ihE _ _ h.1.2) (ihE _ _ h.2)) fun _ => rfl
        · exact absurd h Bool.false_ne_true
      | _ =>
        simp only [chkE] at h
        split at h
        · rw [Bool.and_eq_true] at h
          exact both (sE_ix rfl (ihE _ _ h.1) (ihE _ _ h.2)) fun _ => rfl
        · exact absurd h Bool.false_ne_true
    | ListComp elt gens scope pos =>
      obtain ⟨tg, it, ifs, t, k, as, cond, elt', rfl, rfl, h1, h2, h3, h4, h5, h6⟩ := comp_inv h
      have hcb := (comp_parts (T := T) (n := n) (pos := pos) C S h2 h3 h4 h1 h5 h6 ihE fun e' ir' hh Y CY SY => sE m scope.names e' ir' hh Y CY SY).1
      exact both hcb fun _ => rfl
    | _ => exact absurd h Bool.false_ne_true
end
end Thr
/-! Statements, functions: what the terms reckon, the machine does. -/
namespace Thr
open PySem PySem.Spec PyProof.Rows L2
/-- what is wanted behind a statement, by how it ends -/
def EndOk (K : PySem.W.Frag) (H : Hp) (ι : Wld) (D : Ends) (fl : Fl) (ρ : Slots) (st : Store) : Prop := match fl with
  | .next => ∀ σ' H' ι', Rel K H' ι' st → Ev H ι H' ι' → RepE K H' ι' σ' ρ → D.nx σ' H'
  | .brk => ∀ σ' H' ι', Rel K H' ι' st → Ev H ι H' ι' → RepE K H' ι' σ' ρ → D.bk σ' H'
  | .ret v => ∀ x H' ι', Rel K H' ι' st → Ev H ι H' ι' → RepV K H' ι' x v → D.rt x H'
def TSv (T : Tab) (O : Orc) (K : PySem.W.Frag) (s : S) : TS := fun D σ H => ∃ ρ st ι fl ρ' st', Rel K H ι st ∧ RepE K H ι σ ρ ∧ exS T O s ρ st = some (fl, ρ', st') ∧ EndOk K H ι D fl ρ' st'
def TSsv (T : Tab) (O : Orc) (K : PySem.W.Frag) (s : Ss) : TS := fun D σ H => ∃ ρ st ι fl ρ' st', Rel K H ι st ∧ RepE K H ι σ ρ ∧ exSs T O s ρ st = some (fl, ρ', st') ∧ EndOk K H ι D fl ρ' st'
theorem EndOk.ev {K : PySem.W.Frag} {H H1 : Hp} {ι ι1 : Wld} {D : Ends} {fl : Fl} {ρ : Slots} {st : Store} (h : EndOk K H ι D fl ρ st) (e : Ev H ι H1 ι1) : EndOk K H1 ι1 D fl ρ st := by
  cases fl with
  | next => exact fun σ' H' ι' r ev re => h σ' H' ι' r (e.trans ev) re
  | brk => exact fun σ' H' ι' r ev re => h σ' H' ι' r (e.trans ev) re
  | ret v => exact fun σ' H' ι' r ev re => h σ' H' ι' r (e.trans ev) re
section
variable {G : Gs} {T : Tab} {n : Nat} {N : List Str} {X : Cx} {sc : KSc}
theorem swaps_of {e : Expr} (h : notComp e = true) (tg : Option Expr) (l : Nat) (env : PySem.Env) : swapsWith e tg l env = pure false := by
  cases e <;> first | rfl | (exact absurd h Bool.false_ne_true)
theorem sS_expr {e : Expr} {e' : E} {pos : Pos} (hn : notComp e = true) (he : PE X e (TEv T (callF T n) X.K e')) : PS X (.Expr e pos) (TSv T (callF T n) X.K (.expr e')) :=
  (ps_expr he (swaps_of hn _ _ _)).imp fun D σ H q => by
    obtain ⟨ρ, st, ι, fl, ρ', st', r, re, e, k⟩ := q
    simp only [exS, Option.map_eq_some_iff, Prod.mk.injEq] at e
    obtain ⟨⟨pv, s1⟩, e1, rfl, rfl, rfl⟩ := e
    exact ⟨ρ, st, ι, pv, s1, r, re, e1, fun v H1 ι1 r1 ev1 rv1 => k σ H1 ι1 r1 ev1 (re.mono ev1)⟩
theorem set_imp {e' : E} {i : Nat} : ∀ D σ H, TSv T (callF T n) X.K (.set i e') D σ H → tAsg (TEv T (callF T n) X.K e') (gName i) D σ H := fun D σ H q => by
  obtain ⟨ρ, st, ι, fl, ρ', st', r, re, e, k⟩ := q
  simp only [exS, Option.map_eq_some_iff, Prod.mk.injEq] at e
  obtain ⟨⟨pv, s1⟩, e1, rfl, rfl, rfl⟩ := e
  exact ⟨ρ, st, ι, pv, s1, r, re, e1, fun v H1 ι1 r1 ev1 rv1 => k _ H1 ι1 r1 ev1 ((re.mono ev1).set rv1 i)⟩
theorem sS_set (C : CtxX G T n N X) (S : ScOk sc X) {x : Str} {px pos : Pos} {i : Nat} {e : Expr} {e' : E} (hx : chkName N sc x i = true) (hn : notComp e = true) (he : PE X e (TEv T (callF T n) X.K e')) :
    PS X (.Assign [.Name x px] e pos) (TSv T (callF T n) X.K (.set i e')) := by
  have h' : (decide (N[i]? = some x) && isLoc sc x) = true := hx
  rw [Bool.and_eq_true] at h'
  exact (ps_set (C.hN ▸ C.nd) (by rw [C.hN]; exact of_decide_eq_true h'.1) (loc_of S h'.2) he (swaps_of hn _ _ _) (S.fn x h'.2)).imp set_imp
theorem sS_setT (C : CtxX G T n N X) (S : ScOk sc X) {es : List Expr} {kk : Nat} {pt pos : Pos} {is : List Nat} {e : Expr} {e' : E} (hx : chkNames N sc es is = true) (hn : notComp e = true) (ht : isTup e = false) (he : PE X e (TEv T (callF T n) X.K e')) :
    PS X (.Assign [.Tuple es kk pt] e pos) (TSv T (callF T n) X.K (.setT is e')) := by
  have hg := pg_tgt (t := .many is) C.hN C.nd C.calm S (tg := .Tuple es kk pt) hx
  have h1 : swappedStores [.Tuple es kk pt] e X.env = pure none := by
    unfold swappedStores
    cases e <;> first | rfl | (exact Bool.noConfusion (show true = false from ht))
  have h2 : swapsWithSole [.Tuple es kk pt] e pos.line X.env = pure false := swaps_of hn (some (.Tuple es kk pt)) pos.line X.env
  refine (ps_asg (pos := pos) he hg h2 h1 rfl).imp fun D σ H q => ?_
  obtain ⟨ρ, st, ι, fl, ρ', st', r, re, e, k⟩ := q
  simp only [exS, Option.bind_eq_some_iff, Option.map_eq_some_iff, Prod.mk.injEq] at e
  obtain ⟨⟨pv, s1⟩, e1, ρ2, e2, rfl, rfl, rfl⟩ := e
  refine ⟨ρ, st, ι, pv, s1, r, re, e1, fun v H1 ι1 r1 ev1 rv1 => ?_⟩
  unfold setManyV at e2
  split at e2
  · rename_i ys hpv
    simp only at hpv
    subst hpv
    exact ⟨ι1, .tuple ys, ρ, ρ2, re.mono ev1, rv1, e2, fun σ' re' _ => k σ' H1 ι1 r1 ev1 re'⟩
  · cases e2
theorem sS_ret {e : Expr} {e' : E} {pos : Pos} (he : PE X e (TEv T (callF T n) X.K e')) : PS X (.Return (some e) pos) (TSv T (callF T n) X.K (.ret e')) :=
  (ps_ret he).imp fun D σ H q => by
    obtain ⟨ρ, st, ι, fl, ρ', st', r, re, e, k⟩ := q
    simp only [exS, Option.map_eq_some_iff, Prod.mk.injEq] at e
    obtain ⟨⟨pv, s1⟩, e1, rfl, rfl, rfl⟩ := e
    exact ⟨ρ, st, ι, pv, s1, r, re, e1, k⟩
theorem sS_ite {c : Expr} {c' : E} {a b : List Stmt} {a' b' : Ss} {pos : Pos} (hc : PT X c (TTv T (callF T n) X.K c')) (ha : PSs X a (TSsv T (callF T n) X.K a')) (hb : PSs X b (TSsv T (callF T n) X.K b')) :
    PS X (.If c a b pos) (TSv T (callF T n) X.K (.ite c' a' b')) :=
  (ps_if hc ha hb).imp fun D σ H q => by
    obtain ⟨ρ, st, ι, fl, ρ', st', r, re, e, k⟩ := q
    simp only [exS, Option.bind_eq_some_iff] at e
    obtain ⟨⟨pv, s1⟩, e1, t, e2, e3⟩ := e
    obtain rfl := asB_inv e2
    refine ⟨ρ, st, ι, t, s1, r, re, e1, fun H1 ι1 r1 ev1 => ?_⟩
    cases t with
    | true =>
      rw [if_pos rfl] at e3 ⊢
      exact ⟨ρ, s1, ι1, fl, ρ', st', r1, re.mono ev1, e3, k.ev ev1⟩
    | false =>
      rw [if_neg Bool.false_ne_true] at e3 ⊢
      exact ⟨ρ, s1, ι1, fl, ρ', st', r1, re.mono ev1, e3, k.ev ev1⟩
theorem sS_brk {pos : Pos} : PS X (.Break pos) (TSv T (callF T n) X.K .brk) :=
  ps_break.imp fun D σ H q => by
    obtain ⟨ρ, st, ι, fl, ρ', st', r, re, e, k⟩ := q
    simp only [exS, Option.some.injEq, Prod.mk.injEq] at e
    obtain ⟨rfl, rfl, rfl⟩ := e
    exact k σ H ι r (.refl _ _) re
theorem sS_for (hp : PassesOwn (model X.prog X.w) X.A X.env X.xe) (hcalm : X.calm = true) {tg it : Expr} {body : List Stmt} {t : Tgt} {k : IterK} {as : Es} {body' : Ss} {pos : Pos} (hs : notSet it = true)
    (hi : PI X tg it (TIv T (callF T n) X.K k as)) (hg : PG X tg (TGt X.K t)) (hb : PSs X body (TSsv T (callF T n) X.K body')) : PS X (.For tg it body [] pos) (TSv T (callF T n) X.K (.for t k as body')) := by
  have fold : ∀ x, foldedSetIterable it X.env x = pure x := by
    intro x
    cases it <;> first | rfl | (exact absurd hs Bool.false_ne_true)
  refine (ps_for hp hcalm hi hg hb fold).imp fun D σ H q => ?_
  obtain ⟨ρ, st, ι, fl, ρ', st', r, re, e, kk⟩ := q
  simp only [exS, Option.bind_eq_some_iff] at e
  obtain ⟨⟨pvs, s1⟩, e1, ds, e2, xs, e3, e4⟩ := e
  refine ⟨ρ, st, ι, pvs, s1, ds, xs, r, re, e1, e2, e3, fun J H1 w1 r1 ev1 hlen wk => ?_⟩
  refine for_it wk (fun i σ H => ∃ ρi si w, Rel X.K H w si ∧ RepE X.K H w σ ρi ∧ Ev H1 w1 H w ∧ forL (fun ρ s => exSs T (callF T n) body' ρ s) t (xs.drop i) ρi si = some (fl, ρ', st')) ?_ ?_ ?_ ?_
  · exact ⟨ρ, s1, w1, r1, re.mono ev1, .refl _ _, by rw [List.drop_zero]; exact e4⟩
  · rintro i σ H _ ⟨ρi, si, w, ri, rei, ev, _⟩
    exact ⟨_, ev.ext⟩
  · rintro i x σ H H' hi' ⟨ρi, si, w, ri, rei, ev, ef⟩ ⟨gr, d, hd, hrep⟩
    have rd := hrep _ ev.ext ri.alloc
    have evH := ri.ev gr
    have hdr : xs.drop i = d :: xs.drop (i + 1) := by
      have hi2 : i < xs.length := (List.getElem?_eq_some_iff.mp hd).1
      rw [List.drop_eq_getElem_cons hi2]
      rw [List.getElem?_eq_getElem hi2] at hd
      rw [Option.some.inj hd]
    rw [hdr] at ef
    simp only [forL, Option.bind_eq_some_iff] at ef
    obtain ⟨ρ2, hbt, ⟨fl2, ρ3, s3⟩, hex, ef⟩ := ef
    refine ⟨w, d, ρi, ρ2, rei.mono evH, rd, hbt, fun σ2 re2 _ => ?_⟩
    refine ⟨ρ2, si, w, fl2, ρ3, s3, ri.grow gr, re2, hex, ?_⟩
    cases fl2 with
    | next => exact fun σ' H2 ι2 r2 ev2 re2 => ⟨ρ3, s3, ι2, r2, re2, (ev.trans evH).trans ev2, ef⟩
    | brk =>
      simp only [Option.some.injEq, Prod.mk.injEq] at ef
      obtain ⟨rfl, rfl, rfl⟩ := ef
      exact fun σ' H2 ι2 r2 ev2 re2 => kk σ' H2 ι2 r2 (ev1.trans ((ev.trans evH).trans ev2)) re2
    | ret v =>
      simp only [Option.some.injEq, Prod.mk.injEq] at ef
      obtain ⟨rfl, rfl, rfl⟩ := ef
      exact fun x H2 ι2 r2 ev2 rv2 => kk x H2 ι2 r2 (ev1.trans ((ev.trans evH).trans ev2)) rv2
  · rintro σ H ⟨ρi, si, w, ri, rei, ev, ef⟩
    rw [List.drop_length] at ef
    simp only [forL, Option.some.injEq, Prod.mk.injEq] at ef
    obtain ⟨rfl, rfl, rfl⟩ := ef
    exact kk σ H w ri (ev1.trans ev) rei
theorem sS_whl (hp : PassesOwn (model X.prog X.w) X.A X.env X.xe) {c : Expr} {body : List Stmt} {c' : E} {body' : Ss} {pos : Pos} (hc : PT X c (TTv T (callF T n) X.K c')) (hb : PSs X body (TSsv T (callF T n) X.K body')) :
    PS X (.While c body [] pos) (TSv T (callF T n) X.K (.whl c' body')) := by
  refine (ps_while hp hc hb).imp fun D σ H q => ?_
  obtain ⟨ρ, st, ι, fl, ρ', st', r, re, e, kk⟩ := q
  simp only [exS] at e
  refine ⟨fun m σ' H' => ∃ ρi si w, Rel X.K H' w si ∧ RepE X.K H' w σ' ρi ∧ Ev H ι H' w ∧ whlL (fun ρ s => evE T (callF T n) c' ρ s) (fun ρ s => exSs T (callF T n) body' ρ s) m ρi si = some (fl, ρ', st'), ⟨100000, ρ, st, ι, r, re, .refl _ _, e⟩, ?_⟩
  rintro m σ2 H2 ⟨ρi, si, w, ri, rei, ev, ef⟩
  cases m with
  | zero => cases ef
  | succ m =>
    simp only [whlL, Option.bind_eq_some_iff] at ef
    obtain ⟨⟨pv, s1⟩, e1, b, e2, ef⟩ := ef
    obtain rfl := asB_inv e2
    refine ⟨ρi, si, w, b, s1, ri, rei, e1, fun H3 w3 r3 ev3 => ?_⟩
    cases b with
    | true =>
      rw [if_pos rfl] at ef ⊢
      simp only [Option.bind_eq_some_iff] at ef
      obtain ⟨⟨fl2, ρ3, s3⟩, hex, ef⟩ := ef
      refine ⟨fun σ' H' => ∃ ρi si w, Rel X.K H' w si ∧ RepE X.K H' w σ' ρi ∧ Ev H ι H' w ∧ whlL (fun ρ s => evE T (callF T n) c' ρ s) (fun ρ s => exSs T (callF T n) body' ρ s) m ρi si = some (fl, ρ', st'), fun σ' H' q => ⟨m, Nat.lt_succ_self m, q⟩, ?_⟩
      refine ⟨ρi, s1, w3, fl2, ρ3, s3, r3, rei.mono ev3, hex, ?_⟩
      cases fl2 with
      | next => exact fun σ' H4 ι4 r4 ev4 re4 => ⟨ρ3, s3, ι4, r4, re4, (ev.trans ev3).trans ev4, ef⟩
      | brk =>
        simp only [Option.some.injEq, Prod.mk.injEq] at ef
        obtain ⟨rfl, rfl, rfl⟩ := ef
        exact fun σ' H4 ι4 r4 ev4 re4 => kk σ' H4 ι4 r4 ((ev.trans ev3).trans ev4) re4
      | ret v =>
        simp only [Option.some.injEq, Prod.mk.injEq] at ef
        obtain ⟨rfl, rfl, rfl⟩ := ef
        exact fun x H4 ι4 r4 ev4 rv4 => kk x H4 ι4 r4 ((ev.trans ev3).trans ev4) rv4
    | false =>
      rw [if_neg Bool.false_ne_true] at ef ⊢
      simp only [Option.some.injEq, Prod.mk.injEq] at ef
      obtain ⟨rfl, rfl, rfl⟩ := ef
      exact kk σ2 H3 w3 r3 (ev.trans ev3) (rei.mono ev3)
theorem sSs_nil : PSs X [] (TSsv T (callF T n) X.K .nil) :=
  pss_nil.imp fun D σ H q => by
    obtain ⟨ρ, st, ι, fl, ρ', st', r, re, e, k⟩ := q
    simp only [exSs, Option.some.injEq, Prod.mk.injEq] at e
    obtain ⟨rfl, rfl, rfl⟩ := e
    exact k σ H ι r (.refl _ _) re
theorem sSs_cons {s : Stmt} {ss : List Stmt} {a : S} {as : Ss} (h1 : PS X s (TSv T (callF T n) X.K a)) (h2 : PSs X ss (TSsv T (callF T n) X.K as)) : PSs X (s :: ss) (TSsv T (callF T n) X.K (.cons a as)) :=
  (pss_cons h1 h2).imp fun D σ H q => by
    obtain ⟨ρ, st, ι, fl, ρ', st', r, re, e, k⟩ := q
    simp only [exSs, Option.bind_eq_some_iff] at e
    obtain ⟨⟨fl2, ρ2, s2⟩, e1, e2⟩ := e
    refine ⟨ρ, st, ι, fl2, ρ2, s2, r, re, e1, ?_⟩
    cases fl2 with
    | next => exact fun σ' H1 ι1 r1 ev1 re1 => ⟨ρ2, s2, ι1, fl, ρ', st', r1, re1, e2, k.ev ev1⟩
    | brk =>
      simp only [Option.some.injEq, Prod.mk.injEq] at e2
      obtain ⟨rfl, rfl, rfl⟩ := e2
      exact k
    | ret v =>
      simp only [Option.some.injEq, Prod.mk.injEq] at e2
      obtain ⟨rfl, rfl, rfl⟩ := e2
      exact k
end
end Thr
/-! Functions: the promise of each def, all at once. -/
namespace Thr
open PySem PySem.Spec PyProof.Rows L2
section
variable {G : Gs} {T : Tab} {n : Nat} {N : List Str}
mutual
theorem sS : ∀ (m : Nat) (sc : KSc) (s : Stmt) (ir : S), chkS G N m sc s ir = true → ∀ X, CtxX G T n N X → ScOk sc X → PassesOwn (model X.prog X.w) X.A X.env X.xe → PS X s (TSv T (callF T n) X.K ir)
  | 0, _, _, _, h => absurd h Bool.false_ne_true
  | m + 1, sc, s, ir, h => by
    intro X C S hp
    have ihE : ∀ e ir, chkE G N m sc e ir = true → PE X e (TEv T (callF T n) X.K ir) := fun e ir h => (sE m sc e ir h X C S).1
    have ihT : ∀ e ir, chkE G N m sc e ir = true → PT X e (TTv T (callF T n) X.K ir) := fun e ir h => (sE m sc e ir h X C S).2
    have ihS : ∀ ss ir, chkSs G N m sc ss ir = true → PSs X ss (TSsv T (callF T n) X.K ir) := fun ss ir h => sSs m sc ss ir h X C S hp
    cases s with
    | Expr e pos =>
      cases ir <;> first | (exact absurd h Bool.false_ne_true) | skip
      simp only [chkS, Bool.and_eq_true] at h
      exact sS_expr h.1 (ihE _ _ h.2)
    | Assign tgs e pos =>
      match tgs, h with
      | [], h => exact absurd h Bool.false_ne_true
      | _ :: _ :: _, h => exact absurd h Bool.false_ne_true
      | [tg], h =>
        cases tg <;> first | (exact absurd h Bool.false_ne_true) | skip
        · rename_i x px
          cases ir <;> first | (exact absurd h Bool.false_ne_true) | skip
          rename_i i e' _
          have h' : (chkName N sc x i && chkE G N m sc e e' && asgOk sc x px e) = true := h
          rw [Bool.and_eq_true, Bool.and_eq_true] at h'
          obtain ⟨⟨h1, h2⟩, h3⟩ := h'
          by_cases hl : ∃ elt gens scope cp, e = .ListComp elt gens scope cp
          · obtain ⟨elt, gens, scope, cp, rfl⟩ := hl
            simp only [asgOk, Bool.and_eq_true, beq_iff_eq, Bool.not_eq_true'] at h3
            cases m with
            | zero => exact absurd h2 Bool.false_ne_true
            | succ m =>
              obtain ⟨tg, it, ifs, t, k, as, cond, elt', rfl, rfl, a1, a2, a3, a4, a5, a6⟩ := comp_inv h2
              obtain ⟨_, q⟩ := comp_parts (T := T) (n := n) (pos := cp) C S a2 a3 a4 a1 a5 a6 (fun e' ir' hh => (sE m sc e' ir' hh X C S).1) fun e' ir' hh Y CY SY => sE m scope.names e' ir' hh Y CY SY
              have h1' : (decide (N[i]? = some x) && isLoc sc x) = true := h1
              rw [Bool.and_eq_true] at h1'
              exact (q (i := i) (y := x) (py := px) (spos := pos) (of_decide_eq_true h1'.1) h3.1.1 (by simpa using h3.1.2) h3.2).imp set_imp
          · have h3' : notComp e = true := by
              cases e <;> first | exact h3 | (exact absurd ⟨_, _, _, _, rfl⟩ hl)
            exact sS_set C S h1 h3' (ihE _ _ h2)
        · rename_i es kk pt
          cases ir <;> first | (exact absurd h Bool.false_ne_true) | skip
          rename_i is e' _
          have h' : (chkNames N sc es is && notComp e && !isTup e && chkE G N m sc e e') = true := h
          rw [Bool.and_eq_true, Bool.and_eq_true, Bool.and_eq_true, Bool.not_eq_true'] at h'
          exact sS_setT C S h'.1.1.1 h'.1.1.2 h'.1.2 (ihE _ _ h'.2)
    | Return v pos =>
      cases v with
      | none => exact absurd h Bool.false_ne_true
      | some e =>
        cases ir <;> first | (exact absurd h Bool.false_ne_true) | skip
        exact sS_ret (ihE _ _ h)
    | If c a b pos =>
      cases ir <;> first | (exact absurd h Bool.false_ne_true) | skip
      simp only [chkS, Bool.and_eq_true] at h
      exact sS_ite (ihT _ _ h.1.1) (ihS _ _ h.1.2) (ihS _ _ h.2)
    | For tg it body orelse pos =>
      cases ir <;> first | (exact absurd h Bool.false_ne_true) | skip
      simp only [chkS, Bool.and_eq_true] at h
      obtain ⟨⟨⟨⟨h1, h2⟩, h3⟩, h4⟩, h5⟩ := h
      have ho : orelse = [] := by simpa using h1
      subst ho
      exact sS_for hp C.calm h2 (sI C S _ ihE h3) (pg_tgt C.hN C.nd C.calm S h4) (ihS _ _ h5)
    | While c body orelse pos =>
      cases ir <;> first | (exact absurd h Bool.false_ne_true) | skip
      simp only [chkS, Bool.and_eq_true] at h
      obtain ⟨⟨h1, h2⟩, h3⟩ := h
      have ho : orelse = [] := by simpa using h1
      subst ho
      exact sS_whl hp (ihT _ _ h2) (ihS _ _ h3)
    | Break pos =>
      cases ir <;> first | (exact absurd h Bool.false_ne_true) | skip
      exact sS_brk
    | _ => exact absurd h Bool.false_ne_true
theorem sSs : ∀ (m : Nat) (sc : KSc) (s : List Stmt) (ir : Ss), chkSs G N m sc s ir = true → ∀ X, CtxX G T n N X → ScOk sc X → PassesOwn (model X.prog X.w) X.A X.env X.xe → PSs X s (TSsv T (callF T n) X.K ir)
  | _, _, [], .nil, _ => fun X C S hp => sSs_nil
  | 0, _, [], .cons _ _, h => absurd h Bool.false_ne_true
  | 0, _, _ :: _, _, h => absurd h Bool.false_ne_true
  | m + 1, sc, [], .cons _ _, h => absurd h Bool.false_ne_true
  | m + 1, sc, _ :: _, .nil, h => absurd h Bool.false_ne_true
  | m + 1, sc, s :: ss, .cons a as, h => fun X C S hp => by
    have h' : (chkS G N m sc s a && chkSs G N m sc ss as) = true := h
    rw [Bool.and_eq_true] at h'
    exact sSs_cons (sS m sc s a h'.1 X C S hp) (sSs m sc ss as h'.2 X C S hp)
end
end
theorem scope_of {N P : List Str} {sc : Scope} (h : fnScopeB N P sc = true) : FnScope N P sc := by
  unfold fnScopeB at h
  simp only [Bool.and_eq_true, decide_eq_true_eq, Bool.not_eq_true', List.all_eq_true] at h
  obtain ⟨⟨⟨⟨⟨⟨h1, h2⟩, h3⟩, h4⟩, h5⟩, h6⟩, h7⟩ := h
  refine ⟨h1, h2, h3, h4, h5, fun x hx => ?_, fun y hy e => ?_⟩
  · have q := h6 x hx
    unfold isLoc at q
    simpa only [Bool.or_eq_true, beq_iff_eq] using q
  · have q := h7 y hy
    rw [e] at q
    cases q
/-- what is known of a def of the text -/
structure DefOk (G : Gs) (K : PySem.W.Frag) (mg : Str → Option Value) (fn : Fn) (f : Addr) (fd : FuncData) (ps : List Str) : Prop where
  ex : ∃ (x qual : Str) (st : Stmt) (N : List Str), Fun K x qual st f fd ∧ chkFn G N ps (defBody st) (defScope st) fn = true
  bnd : Binds K fd ps []
structure TabOk (G : Gs) (T : Tab) (K : PySem.W.Frag) (mg : Str → Option Value) : Prop where
  consts : ∀ (i : Nat) (x : Str) (d : PyData), G.cn[i]? = some x → T.consts[i]? = some d → ∃ v u, mg x = some u ∧ RelV v u ∧ ∀ H F, RepD K H F v d
  fns : ∀ (x : Str) (i : Nat), G.fn.lookup x = some i → ∃ f fd ps fn, mg x = some (.ref f) ∧ T.fns[i]? = some fn ∧ DefOk G K mg fn f fd ps
  bl : ∀ (x : Str), G.bl.contains x = true → mg x = none
theorem fin_ok {K : PySem.W.Frag} {H : Hp} {ι : Wld} {st : Store} {n0 : Nat} {v : PV} {r : PV × Store} (h : fin n0 v st = some r) : ∃ x, r = (.d x, st.take n0) ∧ (v = .d x ∨ ∃ k, v = .ref k ∧ n0 ≤ k ∧ ((∃ xs, st[k]? = some (.lst xs) ∧ x = .list xs) ∨ ∃ kvs, st[k]? = some (.dct kvs) ∧ x = dictD kvs)) := by
  unfold fin at h
  split at h
  · cases h; exact ⟨_, rfl, .inl rfl⟩
  · rename_i k
    split at h
    · cases h
    · split at h
      · rename_i xs e
        cases h
        exact ⟨_, rfl, .inr ⟨k, rfl, by omega, .inl ⟨xs, e, rfl⟩⟩⟩
      · rename_i kvs e
        cases h
        exact ⟨_, rfl, .inr ⟨k, rfl, by omega, .inr ⟨kvs, e, rfl⟩⟩⟩
      · cases h
section
variable {K : PySem.W.Frag} {H H' : Hp} {ι ι' : Wld} {st st' : Store}
/-- a frame's cells go -/
theorem Rel.back (r0 : st.length = ι.cs.length) (r : Rel K H' ι' st') (ev : Ev H ι H' ι') : Rel K H' ι (st'.take st.length) ∧ Ev H ι H' ι ∧ Ext H' (foot ι') H' (foot ι) ∧
    ∀ k ca, st.length ≤ k → ι'.cs[k]? = some ca → ca.addr ∉ foot ι := by
  obtain ⟨more, rfl⟩ := ev.pre
  have sub : ∀ a, a ∈ foot ι → a ∈ foot ⟨ι.z, ι.cs ++ more⟩ := fun a h => by
    rcases List.mem_append.mp h with h | h
    · exact List.mem_append_left _ h
    · refine List.mem_append_right _ ?_
      show a ∈ (ι.cs ++ more).map CA.addr
      rw [List.map_append]
      exact List.mem_append_left _ h
  have less : Ext H' (foot ⟨ι.z, ι.cs ++ more⟩) H' (foot ι) := fun a u h na => ⟨h, fun m => na (sub a m)⟩
  have hnd : (foot ⟨ι.z, ι.cs ++ more⟩).Nodup := r.nd
  have e : foot ⟨ι.z, ι.cs ++ more⟩ = foot ι ++ more.map CA.addr := by
    show ι.z ++ (ι.cs ++ more).map CA.addr = (ι.z ++ ι.cs.map CA.addr) ++ more.map CA.addr
    rw [List.map_append, List.append_assoc]
  rw [e] at hnd
  obtain ⟨n1, n2, n3⟩ := List.nodup_append.mp hnd
  have hl : st.length ≤ st'.length := by
    rw [r0, r.len]
    show ι.cs.length ≤ (ι.cs ++ more).length
    rw [List.length_append]; omega
  refine ⟨⟨by rw [List.length_take]; omega, fun k c h => ?_, n1, fun a ha => r.zal a ha⟩, ⟨⟨[], by simp⟩, ev.ext.trans less, ev.zk⟩, less, fun k ca hk hc => ?_⟩
  · have hk : k < st.length := by
      have := (List.getElem?_eq_some_iff.mp h).1
      rw [List.length_take] at this
      omega
    rw [List.getElem?_take_of_lt hk] at h
    obtain ⟨ca, h1, h2⟩ := r.cells k c h
    have h1' : (ι.cs ++ more)[k]? = some ca := h1
    rw [List.getElem?_append_left (by rw [← r0]; exact hk)] at h1'
    exact ⟨ca, h1', h2.mono rfl less⟩
  · have hc' : (ι.cs ++ more)[k]? = some ca := hc
    rw [List.getElem?_append_right (by rw [← r0]; exact hk)] at hc'
    have hm : ca.addr ∈ more.map CA.addr := List.mem_map.mpr ⟨ca, List.mem_of_getElem? hc', rfl⟩
    exact fun m => n3 _ m _ hm rfl
end
theorem start_rep {K : PySem.W.Frag} {H : Hp} {ι : Wld} {N : List Str} {vs : List V} {pvs : List PV} {ns : Nat} (hn : N.length = ns) (r : RepVs K H ι vs pvs) : RepE K H ι (L2.start N vs) (startS ns pvs) := by
  have hl : vs.length = pvs.length := PySem.Paired.length r
  refine ⟨by unfold L2.start startS; simp [hl, hn], fun i pv h => ?_⟩
  unfold startS at h
  by_cases hi : i < pvs.length
  · rw [List.getElem?_append_left (by simpa using hi), List.getElem?_map] at h
    cases e : pvs[i]? with
    | none => rw [e] at h; cases h
    | some p =>
      rw [e] at h
      cases h
      have go : ∀ {vs : List V} {pvs : List PV} {i : Nat} {p : PV}, RepVs K H ι vs pvs → pvs[i]? = some p → ∃ v, vs[i]? = some v ∧ RepV K H ι v p := by
        intro vs pvs i p r
        induction r generalizing i with
        | nil => intro h; simp at h
        | cons a t ih =>
          intro h
          cases i with
          | zero => simp at h; subst h; exact ⟨_, rfl, a⟩
          | succ i => exact ih (by simpa using h)
      obtain ⟨v, h1, h2⟩ := go r e
      refine ⟨v, ?_, h2⟩
      unfold L2.start
      rw [List.getElem?_append_left (by rw [List.length_map, hl]; exact hi), List.getElem?_map, h1]; rfl
  · rw [List.getElem?_append_right (by simpa using hi), List.getElem?_replicate] at h
    split at h <;> cases h
/-- all defs keep their promise -/
theorem fn_ok {P : Program} {w : World} {K : PySem.W.Frag} {mg : Str → Option Value} {base : Heap} {G : Gs} {T : Tab} (tok : TabOk G T K mg) : ∀ (n : Nat) {i : Nat} {fn : Fn} {f : Addr} {fd : FuncData} {ps : List Str}, T.fns[i]? = some fn → DefOk G K mg fn f fd ps →
    FnOk P w K mg base CX0 n f fd ps (spF T n i K)
  | 0, i, fn, f, fd, ps, _, _ => by
    have no : ∀ vs H Q E, ¬ spF T 0 i K vs H Q E := fun vs H Q E h => by
      obtain ⟨ι, st, pvs, pv, st', r, rv, e, k⟩ := h
      cases e
    exact ⟨fun vs H Q E h => absurd h (no vs H Q E), fun A outer s H args us vs Q E _ _ _ _ h => absurd h (no vs H Q E)⟩
  | n + 1, i, fn, f, fd, ps, hfn, D => by
    obtain ⟨x, qual, stx, N, F, hc⟩ := D.ex
    unfold chkFn at hc
    simp only [Bool.and_eq_true, decide_eq_true_eq] at hc
    obtain ⟨⟨⟨h1, h2⟩, h3⟩, h4⟩ := hc
    have FS := scope_of h1
    refine F.ok FS (fun vs H Q E h => ?_) (fun cdv A outer s H vs Q E hr h => ?_)
    · obtain ⟨ι, st, pvs, pv, st', r, rv, e, k⟩ := h
      simp only [callF, hfn, Option.bind_some, Option.ite_none_right_eq_some] at e
      rw [h2, ← e.1]
      exact PySem.Paired.length rv
    · obtain ⟨ι, st, pvs, pv, st', r, rv, e, k⟩ := h
      simp only [callF, hfn, Option.bind_some, Option.ite_none_right_eq_some, Option.bind_eq_some_iff] at e
      obtain ⟨hlen, ⟨fl, ρ', s2⟩, e1, e2⟩ := e
      have C : CtxX G T n N (cxOf CX0 P w K mg base N qual (defScope stx) f cdv A outer s H E).nox := by
        refine ⟨rfl, FS.nd, rfl, hr, tok.consts, fun y j hj => ?_, tok.bl⟩
        obtain ⟨f', fd', ps', fn', hm, hfn', D'⟩ := tok.fns y j hj
        obtain ⟨_, _, _, _, F', _⟩ := D'.ex
        exact ⟨f', fd', ps', hm, F'.kp, D'.bnd, fn_ok tok n hfn' D'⟩
      have S : ScOk (defScope stx).names (cxOf CX0 P w K mg base N qual (defScope stx) f cdv A outer s H E).nox :=
        ⟨FS.kind, fun y k _ h => h, fun y h => .inl h, fun y _ => .inl rfl⟩
      refine ⟨_, sSs (T := T) (n := n) 200 _ _ _ h4 _ C S PassesOwn.never, ?_⟩
      refine ⟨startS fn.ns pvs, st, ι, fl, ρ', s2, r, start_rep h3 rv, e1, ?_⟩
      cases fl with
      | brk => cases e2
      | next =>
        intro σ' H' ι' r' ev' re'
        obtain ⟨x, hx, hx2⟩ := fin_ok (K := K) (H := H) (ι := ι) (show fin st.length (.d .none) s2 = some (pv, st') from e2)
        cases hx
        rcases hx2 with hx2 | ⟨k', hx2, _⟩
        · cases hx2
          obtain ⟨b1, b2, b3, b4⟩ := Rel.back r.len r' ev'
          exact k .non H' b1 b2 .non
        · cases hx2
      | ret v =>
        intro x' H' ι' r' ev' rv'
        obtain ⟨x, hx, hx2⟩ := fin_ok (K := K) (H := H) (ι := ι) (show fin st.length v s2 = some (pv, st') from e2)
        cases hx
        obtain ⟨b1, b2, b3, b4⟩ := Rel.back r.len r' ev'
        refine k x' H' b1 b2 ?_
        rcases hx2 with rfl | ⟨k', rfl, hk, hx2⟩
        · exact RepD.mono b3 rv'
        · obtain ⟨ca, hca, rfl⟩ := rv'
          rcases hx2 with ⟨xs, hs, rfl⟩ | ⟨kvs, hs, rfl⟩
          · obtain ⟨cb, hb1, hb2⟩ := r'.cells k' _ hs
            rw [hca] at hb1; cases hb1
            have hnot := b4 k' ca hk hca
            cases ca <;> first | (exact hb2.elim) | skip
            obtain ⟨ys, a1, a2, a3⟩ := hb2
            exact .lst (.inl ⟨.inl a1, hnot⟩) a2 (a3.mono b3)
          · obtain ⟨cb, hb1, hb2⟩ := r'.cells k' _ hs
            rw [hca] at hb1; cases hb1
            have hnot := b4 k' ca hk hca
            cases ca <;> first | (exact hb2.elim) | skip
            obtain ⟨ys, a1, a2, a3⟩ := hb2
            exact .dct a1 hnot a2 (a3.mono b3)
end Thr
/-! The end: from the module's facts to the law's promise. -/
namespace Thr
open PySem PySem.Spec PyProof.Rows L2
def spLaw (K : PySem.W.Frag) : Sp := fun vs H Q _ => ∃ (a : Addr) (ns : List Int), vs = [.ref a] ∧ SqL K H a (ns.map V.int) ∧ ns.length ≤ 63 ∧ ∀ H', Q (.bl true) H'
def FunAt (K : PySem.W.Frag) (x : Str) (st : Stmt) : Prop :=
  ∃ (oc : Value) (od an : Option Addr) (osl : Array (Option Value)) (kV doc pm cdv ct : Value) (f : Addr), PySem.W.nsIn K mainGlobals x = some (some (.ref f)) ∧
    K.lookup f = some ⟨oc, od, .func (PySem.W.fnOf x x (defArgs st) (defBody st) (defScope st) .none kV doc pm an cdv ct), osl⟩ ∧ PySem.W.codeIn K cdv x = true ∧ PySem.W.keepIn K (.ref f) = true
theorem use_fun {goal : Prop} {K : PySem.W.Frag} {h : Heap} (X : K.In h) (x : Str) (st : Stmt) {oc : Value} {od an : Option Addr} {osl : Array (Option Value)} {kV doc pm cdv ct : Value} {f : Addr}
    (a : PySem.W.nsIn K mainGlobals x = some (some (.ref f))) (l : K.lookup f = some ⟨oc, od, .func (PySem.W.fnOf x x (defArgs st) (defBody st) (defScope st) .none kV doc pm an cdv ct), osl⟩)
    (c : PySem.W.codeIn K cdv x = true) (k : PySem.W.keepIn K (.ref f) = true) (g : FunAt K x st → goal) : goal := g ⟨oc, od, an, osl, kV, doc, pm, cdv, ct, f, a, l, c, k⟩
theorem use_bl {goal : Prop} {K : PySem.W.Frag} {h : Heap} (X : K.In h) (x : Str) (a : PySem.W.nsIn K mainGlobals x = some none) (g : PySem.W.nsIn K mainGlobals x = some none → goal) : goal := g a
theorem FunAt.def {K : PySem.W.Frag} {x : Str} {st : Stmt} (F : FunAt K x st) {ps : List Str} {h : Heap} {mg : Str → Option Value} {G : Gs} {fn : Fn} (X : K.In h) (N : h.Ns mainGlobals mg)
    (b : ∀ (kV doc pm : Value) (an : Option Addr) (cdv ct : Value) (us : List Value), us.length = ps.length → bindArgs (PySem.W.fnOf x x (defArgs st) (defBody st) (defScope st) .none kV doc pm an cdv ct) ⟨us, []⟩ = pure (ps.zip us))
    (c : ∃ N, chkFn G N ps (defBody st) (defScope st) fn = true) : ∃ f fd, mg x = some (.ref f) ∧ DefOk G K mg fn f fd ps ∧ ∀ us : List Value, us.length = ps.length → bindArgs fd ⟨us, []⟩ = pure (ps.zip us) := by
  obtain ⟨oc, od, an, osl, kV, doc, pm, cdv, ct, f, a, l, cc, k⟩ := F
  obtain ⟨N', c⟩ := c
  have F := fun_mk l cc k
  exact ⟨f, _, PySem.W.mg_of X N a, ⟨⟨x, x, st, N', F, c⟩, F.binds b⟩, b kV doc pm an cdv ct⟩
/-- a constant of the module -/
def ConAt (K : PySem.W.Frag) (x : Str) (d : PyData) : Prop := ∃ v u, PySem.W.nsIn K mainGlobals x = some (some u) ∧ RelV v u ∧ ∀ H F, RepD K H F v d
inductive Cons (P : Str → PyData → Prop) : List Str → List PyData → Prop
  | nil : Cons P [] []
  | cons {x : Str} {d : PyData} {xs : List Str} {ds : List PyData} : P x d → Cons P xs ds → Cons P (x :: xs) (d :: ds)
theorem con_ok {P : Str → PyData → Prop} {cs : List Str} {ds : List PyData} (h : Cons P cs ds) : ∀ (i : Nat) (x : Str) (d : PyData), cs[i]? = some x → ds[i]? = some d → P x d := by
  induction h with
  | nil => intro i x d h; simp at h
  | cons a t ih =>
    intro i x d h1 h2
    cases i with
    | zero => simp at h1 h2; subst h1; subst h2; exact a
    | succ i => exact ih i x d (by simpa using h1) (by simpa using h2)
theorem ConAt.at {K : PySem.W.Frag} {x : Str} {d : PyData} {h : Heap} {mg : Str → Option Value} (X : K.In h) (N : h.Ns mainGlobals mg) (c : ConAt K x d) : ∃ v u, mg x = some u ∧ RelV v u ∧ ∀ H F, RepD K H F v d := by
  obtain ⟨v, u, a, r⟩ := c
  exact ⟨v, u, PySem.W.mg_of X N a, r⟩
def AllP {α β : Type} (P : α → β → Prop) : List (α × β) → Prop
  | [] => True
  | p :: r => P p.1 p.2 ∧ AllP P r
theorem fns_ok {β : Type} {P : Str → β → Prop} : ∀ {L : List (Str × β)}, AllP P L → ∀ (x : Str) (i : β), L.lookup x = some i → P x i
  | [], _, x, i, h => by simp at h
  | (y, j) :: r, ⟨a, t⟩, x, i, h => by
    rw [List.lookup_cons] at h
    split at h
    · rename_i e
      cases h
      rw [eq_of_beq e]
      exact a
    · exact fns_ok t x i h
def AllQ {α : Type} (P : α → Prop) : List α → Prop
  | [] => True
  | p :: r => P p ∧ AllQ P r
theorem bl_ok {P : Str → Prop} : ∀ {L : List Str}, AllQ P L → ∀ x : Str, L.contains x = true → P x
  | [], _, x, h => by simp at h
  | y :: r, ⟨a, t⟩, x, h => by
    rw [List.contains_cons, Bool.or_eq_true] at h
    rcases h with h | h
    · rw [eq_of_beq h]; exact a
    · exact bl_ok t x h
theorem ints_rep {K : PySem.W.Frag} {H : Hp} {F : List Addr} : ∀ ns : List Int, RepDs K H F (ns.map V.int) (ns.map .int)
  | [] => .nil
  | n :: r => .cons (.int n) (ints_rep r)
theorem law_end {P : Program} {w : World} {K : PySem.W.Frag} {mg : Str → Option Value} {h : Heap} {fa f : Addr} {fd : FuncData} {G : Gs} {T : Tab} {i : Nat} {fn : Fn} {p : Str} {nm : Str} (X : K.In h) (N : h.Ns mainGlobals mg) (hfa : mg nm = some (.ref fa))
    (tok : TabOk G T K mg) (a : mg nm = some (.ref f)) (hfn : T.fns[i]? = some fn) (D : DefOk G K mg fn f fd [p]) (b : ∀ us : List Value, us.length = [p].length → bindArgs fd ⟨us, []⟩ = pure ([p].zip us))
    (pure : ∀ ns : List Int, ns.length ≤ 63 → ∃ st, callF T 200 i [.d (.list (ns.map .int))] [] = some (.d (.bool true), st)) :
    ∃ fd : FuncData, (∀ (s : Shared) (v : Value), BindsTo s fd ⟨[v], []⟩ [(p, v)]) ∧ ∀ base : Heap, K.In base → base.Ns mainGlobals mg → FnOk P w K mg base CX0 200 fa fd [p] (spLaw K) := by
  rw [hfa] at a
  cases a
  refine ⟨fd, fun s v => .of_eq (b [v] rfl), fun base _ _ => (fn_ok tok 200 hfn D).imp fun vs H Q E q => ?_⟩
  obtain ⟨ad, ns, rfl, hS, hl, k⟩ := q
  obtain ⟨st, e⟩ := pure ns hl
  refine ⟨⟨[], []⟩, [], [.d (.list (ns.map .int))], _, st, ⟨rfl, fun n c h => by simp at h, .nil, fun a h => by simp at h⟩, .cons ?_ .nil, e, fun v H' r ev rv => ?_⟩
  · refine .lst ?_ (by rw [List.length_map]; exact Nat.le_trans hl (by decide)) (ints_rep ns)
    rcases hS with hS | hS
    · exact .inl ⟨hS, List.not_mem_nil⟩
    · exact .inr hS
  · have rv' : RepD K H' _ v (.bool true) := rv
    cases rv'
    exact k H'
theorem walk {l : PySem.W.OpenLaw} {q : Program} {loose : List Str} {XP : (Str → Option Value) → Heap → Prop} {YP : World → Heap → Prop} {d : DefRec} {K : Params → PySem.W.Frag} {x : Str} (hn : l.most = some 63) (hdf : d.params.defaults = [])
    (hY : ∀ (w : World) (h : Heap), YP w h → (K w.params).In h)
    (F : ∀ (w : World) (mg : Str → Option Value) (fa : Addr) (h : Heap), (K w.params).In h → h.Ns mainGlobals mg → mg d.name = some (.ref fa) →
      ∃ fd : FuncData, (∀ (s : Shared) (u : Value), BindsTo s fd ⟨[u], []⟩ [(x, u)]) ∧ ∀ base : Heap, (K w.params).In base → base.Ns mainGlobals mg → FnOk l.prog w (K w.params) mg base CX0 200 fa fd [x] (spLaw (K w.params))) :
    PySem.W.WalkO q loose XP YP l.row.toRowW d [] (fun f vs => PySem.call f vs) :=
  L2.walk_of (n := 63) (k := 200) (x := x) (CX := fun _ => CX0) (sp := fun w => spLaw (K w.params)) hn (by decide) hdf ⟨rfl, by decide, by decide⟩ hY F (fun _ _ a ns hl _ hS => ⟨a, ns, rfl, hS, hl, fun _ => rfl⟩) fun _ _ _ _ _ z => z
end Thr
/-! Reckoning by hand: rules for the evaluator. -/
namespace Thr
open PySem
/-- at k levels of calls or more f answers r -/
def Calls (T : Tab) (k i : Nat) (vs : List PV) (st : Store) (r : PV × Store) : Prop := ∀ n, k ≤ n → callF T n i vs st = some r
theorem Calls.mono {T : Tab} {k k' i : Nat} {vs : List PV} {st : Store} {r : PV × Store} (h : Calls T k i vs st r) (hk : k ≤ k') : Calls T k' i vs st r := fun n hn => h n (Nat.le_trans hk hn)
def Ans (f : Nat) (r : Option (Fl × Slots × Store)) (st : Store) (x : PyData) : Prop := ∃ ρ more, r = some (.ret (.d x), ρ, st ++ more)
theorem Calls.mk {T : Tab} {k i : Nat} {fn : Fn} {vs : List PV} {st : Store} {x : PyData} (hf : T.fns[i]? = some fn) (hl : vs.length = fn.np)
    (h : ∀ n, k ≤ n → ∃ ρ more, exSs T (callF T n) fn.body (startS fn.ns vs) st = some (.ret (.d x), ρ, st ++ more)) : Calls T (k + 1) i vs st (.d x, st) := by
  intro n hn
  obtain ⟨m, rfl⟩ : ∃ m, n = m + 1 := ⟨n - 1, by omega⟩
  obtain ⟨ρ, more, e⟩ := h m (by omega)
  simp only [callF, hf, Option.bind_some, hl, if_true, e, fin, List.take_left]
theorem Calls.mk0 {T : Tab} {k i : Nat} {fn : Fn} {vs : List PV} {st : Store} {x : PyData} (hf : T.fns[i]? = some fn) (hl : vs.length = fn.np)
    (h : ∀ n, k ≤ n → ∃ ρ, exSs T (callF T n) fn.body (startS fn.ns vs) st = some (.ret (.d x), ρ, st)) : Calls T (k + 1) i vs st (.d x, st) :=
  Calls.mk hf hl fun n hn => by
    obtain ⟨ρ, e⟩ := h n hn
    exact ⟨ρ, [], by rw [List.append_nil]; exact e⟩
theorem atIx_map {α : Type} (f : α → PyData) (xs : List α) {i : Int} (h0 : 0 ≤ i) (h1 : i < xs.length) : ∃ x ∈ xs, atIx (xs.map f) i = some (f x) := by
  have h : i.toNat < xs.length := by omega
  refine ⟨xs[i.toNat], List.getElem_mem h, ?_⟩
  unfold atIx
  rw [if_pos h0, List.getElem?_map, List.getElem?_eq_getElem h]
  rfl
theorem atIx_mem {α : Type} (xs : List α) {i : Int} (h0 : 0 ≤ i) (h1 : i < xs.length) : ∃ x ∈ xs, atIx xs i = some x := by
  have h : i.toNat < xs.length := by omega
  refine ⟨xs[i.toNat], List.getElem_mem h, ?_⟩
  unfold atIx
  rw [if_pos h0, List.getElem?_eq_getElem h]
theorem atIx_0 {α : Type} (a : α) (xs : List α) : atIx (a :: xs) 0 = some a := rfl
theorem atIx_1 {α : Type} (a b : α) (xs : List α) : atIx (a :: b :: xs) 1 = some b := rfl
theorem atIx_2 {α : Type} (a b c : α) (xs : List α) : atIx (a :: b :: c :: xs) 2 = some c := rfl
theorem atIx_3 {α : Type} (a b c d : α) (xs : List α) : atIx (a :: b :: c :: d :: xs) 3 = some d := rfl
theorem atIx_n1 {α : Type} (a : α) : atIx [a] (-1) = some a := rfl
theorem atIx_n2 {α : Type} (a b : α) : atIx [a, b] (-1) = some b := rfl
theorem atIx_n3 {α : Type} (a b c : α) : atIx [a, b, c] (-1) = some c := rfl
theorem atIx_n4 {α : Type} (a b c d : α) : atIx [a, b, c, d] (-1) = some d := rfl
theorem atIx_nat {α : Type} (xs : List α) (c : Nat) : atIx xs (c : Int) = xs[c]? := by
  unfold atIx
  rw [if_pos (by omega)]
  rfl
theorem atIx_neg1 {α : Type} (xs : List α) (y : α) : atIx (xs ++ [y]) (-1) = some y := by
  unfold atIx
  rw [if_neg (by omega), if_pos (by rw [List.length_append]; simp only [List.length_singleton]; omega), List.length_append]
  have : (-1 + ((xs.length + [y].length : Nat) : Int)).toNat = xs.length := by simp only [List.length_singleton]; omega
  rw [this, List.getElem?_append_right (Nat.le_refl _)]
  simp
inductive F2 {α β : Type} (P : α → β → Prop) : List α → List β → Prop
  | nil : F2 P [] []
  | cons {x : α} {y : β} {xs : List α} {ys : List β} : P x y → F2 P xs ys → F2 P (x :: xs) (y :: ys)
theorem F2.length {α β : Type} {P : α → β → Prop} {xs : List α} {ys : List β} (h : F2 P xs ys) : ys.length = xs.length := by
  induction h with
  | nil => rfl
  | cons _ _ ih => simp [ih]
theorem F2.all {α β : Type} {P : β → Prop} {xs : List α} {ys : List β} (h : F2 (fun _ y => P y) xs ys) : ∀ y ∈ ys, P y := by
  induction h with
  | nil => intro y hy; cases hy
  | cons a _ ih => intro z hz; rcases List.mem_cons.mp hz with rfl | hz; exact a; exact ih z hz
section
variable {T : Tab} {O : Orc}
theorem compL_ex {α β : Type} (f : α → PyData) (g : β → PyData) (P : α → β → Prop) {step : PyData → Store → Option (Option PyData × Store)} {st : Store} : ∀ xs : List α, (∀ x ∈ xs, ∃ y, P x y ∧ step (f x) st = some (some (g y), st)) →
    ∃ ys : List β, F2 P xs ys ∧ compL step (xs.map f) st = some (ys.map g, st)
  | [], _ => ⟨[], .nil, rfl⟩
  | x :: xs, h => by
    obtain ⟨y, hy, e⟩ := h x (by simp)
    obtain ⟨ys, hys, e2⟩ := compL_ex f g P xs fun z hz => h z (by simp [hz])
    refine ⟨y :: ys, .cons hy hys, ?_⟩
    simp [compL, e, e2]
theorem compL_filter {α : Type} (f g : α → PyData) (c : α → Bool) {step : PyData → Store → Option (Option PyData × Store)} {st : Store} : ∀ xs : List α, (∀ x ∈ xs, step (f x) st = some (if c x then some (g x) else none, st)) →
    compL step (xs.map f) st = some ((xs.filter c).map g, st)
  | [], _ => rfl
  | x :: xs, h => by
    have e := h x (by simp)
    have e2 := compL_filter f g c xs fun z hz => h z (by simp [hz])
    cases hc : c x <;> simp [compL, e, e2, hc]
/-- a comprehension whose elements are told of -/
theorem ev_compEx {α β : Type} (f : α → PyData) (g : β → PyData) (P : α → β → Prop) {t : Tgt} {k : IterK} {as : Es} {elt : E} {ρ : Slots} {st : Store} {vs : List PV} {ds : List PyData} (xs : List α)
    (h1 : evEs T O as ρ st = some (vs, st)) (h2 : allD vs = some ds) (h3 : itemsOf k ds = some (xs.map f))
    (step : ∀ x ∈ xs, ∃ y, P x y ∧ ∃ ρ', bindT t (f x) ρ = some ρ' ∧ evE T O elt ρ' st = some (.d (g y), st)) :
    ∃ ys : List β, F2 P xs ys ∧ evE T O (.comp t k as none elt) ρ st = some (.d (.list (ys.map g)), st) := by
  obtain ⟨ys, hp, e⟩ := compL_ex f g P (step := fun x s => (bindT t x ρ).bind fun ρ' => (evE T O elt ρ' s).bind fun r2 => (asD r2.1).map fun y => (some y, r2.2)) (st := st) xs fun x hx => by
    obtain ⟨y, hy, ρ', e1, e2⟩ := step x hx
    exact ⟨y, hy, by simp [e1, e2, asD]⟩
  refine ⟨ys, hp, ?_⟩
  simp only [evE, h1, h2, h3, Option.bind_some]
  rw [e]; rfl
theorem F2.choose {α β : Type} {P : α → β → Prop} : ∀ xs : List α, (∀ x ∈ xs, ∃ y, P x y) → ∃ ys : List β, F2 P xs ys
  | [], _ => ⟨[], .nil⟩
  | x :: xs, h => by
    obtain ⟨y, hy⟩ := h x (by simp)
    obtain ⟨ys, hys⟩ := F2.choose xs fun z hz => h z (by simp [hz])
    exact ⟨y :: ys, .cons hy hys⟩
theorem F2.imp {α β : Type} {P Q : α → β → Prop} (k : ∀ x y, P x y → Q x y) {xs : List α} {ys : List β} (h : F2 P xs ys) : F2 Q xs ys := by
  induction h with
  | nil => exact .nil
  | cons a _ ih => exact .cons (k _ _ a) ih
theorem compL_F2 {α β : Type} (f : α → PyData) (g : β → PyData) {P : α → β → Prop} {step : PyData → Store → Option (Option PyData × Store)} {st : Store} (h : ∀ x y, P x y → step (f x) st = some (some (g y), st)) {xs : List α} {ys : List β} (p : F2 P xs ys) :
    compL step (xs.map f) st = some (ys.map g, st) := by
  induction p with
  | nil => rfl
  | cons a _ ih => simp [compL, h _ _ a, ih]
theorem ev_compF2 {α β : Type} (f : α → PyData) (g : β → PyData) {P : α → β → Prop} {t : Tgt} {k : IterK} {as : Es} {elt : E} {ρ : Slots} {st : Store} {vs : List PV} {ds : List PyData} {xs : List α} {ys : List β} (p : F2 P xs ys)
    (h1 : evEs T O as ρ st = some (vs, st)) (h2 : allD vs = some ds) (h3 : itemsOf k ds = some (xs.map f))
    (step : ∀ x y, P x y → ∃ ρ', bindT t (f x) ρ = some ρ' ∧ evE T O elt ρ' st = some (.d (g y), st)) :
    evE T O (.comp t k as none elt) ρ st = some (.d (.list (ys.map g)), st) := by
  simp only [evE, h1, h2, h3, Option.bind_some]
  rw [compL_F2 f g (fun x y h => ?_) p]; · rfl
  obtain ⟨ρ', e1, e2⟩ := step x y h
  simp [e1, e2, asD]
theorem ev_comp {α : Type} (f g : α → PyData) {t : Tgt} {k : IterK} {as : Es} {elt : E} {ρ : Slots} {st : Store} {vs : List PV} {ds : List PyData} (xs : List α)
    (h1 : evEs T O as ρ st = some (vs, st)) (h2 : allD vs = some ds) (h3 : itemsOf k ds = some (xs.map f))
    (step : ∀ x ∈ xs, ∃ ρ', bindT t (f x) ρ = some ρ' ∧ evE T O elt ρ' st = some (.d (g x), st)) :
    evE T O (.comp t k as none elt) ρ st = some (.d (.list (xs.map g)), st) := by
  obtain ⟨ys, hp, e⟩ := ev_compEx f g (fun x y => x = y) xs h1 h2 h3 fun x hx => ⟨x, rfl, step x hx⟩
  have : ys = xs := by
    clear e h3 step
    induction hp with
    | nil => rfl
    | cons a _ ih => rw [a, ih]
  rw [e, this]
theorem ev_compIf {α : Type} (f g : α → PyData) (c : α → Bool) {t : Tgt} {k : IterK} {as : Es} {elt cond : E} {ρ : Slots} {st : Store} {vs : List PV} {ds : List PyData} (xs : List α)
    (h1 : evEs T O as ρ st = some (vs, st)) (h2 : allD vs = some ds) (h3 : itemsOf k ds = some (xs.map f))
    (step : ∀ x ∈ xs, ∃ ρ', bindT t (f x) ρ = some ρ' ∧ evE T O cond ρ' st = some (.d (.bool (c x)), st) ∧ (c x = true → evE T O elt ρ' st = some (.d (g x), st))) :
    evE T O (.comp t k as (some cond) elt) ρ st = some (.d (.list ((xs.filter c).map g)), st) := by
  simp only [evE, h1, h2, h3, Option.bind_some]
  rw [compL_filter f g c xs fun x hx => ?_]; · rfl
  obtain ⟨ρ', e1, e2, e3⟩ := step x hx
  cases hc : c x with
  | true => simp [e1, e2, hc, asB, e3 hc, asD]
  | false => simp [e1, e2, hc, asB]
theorem forL_inv {α : Type} (f : α → PyData) {body : Slots → Store → Option (Fl × Slots × Store)} {t : Tgt} (Inv : List α → Slots → Store → Prop) (full : List α) : ∀ (xs done : List α) (ρ : Slots) (st : Store), full = done ++ xs → Inv done ρ st →
    (∀ done x rest ρ s, full = done ++ x :: rest → Inv done ρ s → ∃ ρ1, bindT t (f x) ρ = some ρ1 ∧ ∃ ρ2 s2, body ρ1 s = some (.next, ρ2, s2) ∧ Inv (done ++ [x]) ρ2 s2) →
    ∃ ρ' s', forL body t (xs.map f) ρ st = some (.next, ρ', s') ∧ Inv (done ++ xs) ρ' s'
  | [], done, ρ, st, _, h0, _ => ⟨ρ, st, rfl, by rw [List.append_nil]; exact h0⟩
  | x :: xs, done, ρ, st, he, h0, h => by
    obtain ⟨ρ1, e1, ρ2, s2, e2, i2⟩ := h done x xs ρ st he h0
    obtain ⟨ρ', s', e, i⟩ := forL_inv f Inv full xs (done ++ [x]) ρ2 s2 (by simpa using he) i2 h
    refine ⟨ρ', s', ?_, by simpa using i⟩
    simp [forL, e1, e2, e]
/-- so far the loop went on -/
def RunsTo (body : Slots → Store → Option (Fl × Slots × Store)) (t : Tgt) (xs : List PyData) (ρ : Slots) (s : Store) (ρ' : Slots) (s' : Store) : Prop := ∀ ys, forL body t (xs ++ ys) ρ s = forL body t ys ρ' s'
theorem RunsTo.nil {body : Slots → Store → Option (Fl × Slots × Store)} {t : Tgt} {ρ : Slots} {s : Store} : RunsTo body t [] ρ s ρ s := fun ys => rfl
theorem RunsTo.snoc {body : Slots → Store → Option (Fl × Slots × Store)} {t : Tgt} {xs : List PyData} {x : PyData} {ρ ρ' ρ1 ρ2 : Slots} {s s' s2 : Store} (h : RunsTo body t xs ρ s ρ' s') (hb : bindT t x ρ' = some ρ1) (h2 : body ρ1 s' = some (.next, ρ2, s2)) :
    RunsTo body t (xs ++ [x]) ρ s ρ2 s2 := fun ys => by
  rw [List.append_assoc, h]
  simp [forL, hb, h2]
theorem RunsTo.end {body : Slots → Store → Option (Fl × Slots × Store)} {t : Tgt} {xs : List PyData} {ρ ρ' : Slots} {s s' : Store} (h : RunsTo body t xs ρ s ρ' s') : forL body t xs ρ s = some (.next, ρ', s') := by
  have := h []
  rw [List.append_nil] at this
  rw [this]; rfl
/-- a loop that runs to its end -/
theorem ex_for {α : Type} (f : α → PyData) {t : Tgt} {k : IterK} {as : Es} {body : Ss} {ρ : Slots} {st st1 : Store} {vs : List PV} {ds : List PyData} (xs : List α) (Inv : List α → Slots → Store → Prop)
    (h1 : evEs T O as ρ st = some (vs, st1)) (h2 : allD vs = some ds) (h3 : itemsOf k ds = some (xs.map f)) (h0 : Inv [] ρ st1)
    (step : ∀ done x rest ρ s, xs = done ++ x :: rest → Inv done ρ s → ∃ ρ1, bindT t (f x) ρ = some ρ1 ∧ ∃ ρ2 s2, exSs T O body ρ1 s = some (.next, ρ2, s2) ∧ Inv (done ++ [x]) ρ2 s2) :
    ∃ ρ' s', exS T O (.for t k as body) ρ st = some (.next, ρ', s') ∧ Inv xs ρ' s' := by
  obtain ⟨ρ', s', e, i⟩ := forL_inv f Inv xs xs [] ρ st1 rfl h0 step
  refine ⟨ρ', s', ?_, by simpa using i⟩
  simp only [exS, h1, h2, h3, Option.bind_some]
  exact e
end
theorem eqF_str (a b : Str) : eqF (.str a) (.str b) = some (decide (a = b)) := by
  simp only [eqF, scalB, PyData.eqv, Bool.and_self, Bool.true_or, if_true, Option.some.injEq]
  rw [Bool.eq_iff_iff, beq_iff_eq, decide_eq_true_iff]
theorem eqF_int (a b : Int) : eqF (.int a) (.int b) = some (decide (a = b)) := by
  simp only [eqF, scalB, PyData.eqv, Bool.and_self, Bool.true_or, if_true, Option.some.injEq]
  rw [Bool.eq_iff_iff, beq_iff_eq, decide_eq_true_iff]
theorem mulOk_mod (y z : Int) : mulOk (y % 2147483647) z = true := by
  unfold mulOk
  rw [Bool.or_eq_true]
  exact .inl (decide_eq_true (by omega))
theorem mulOk_l {a b : Int} (h : -18446744073709551616 < b ∧ b < 18446744073709551616) : mulOk a b = true := by
  unfold mulOk
  rw [Bool.or_eq_true]
  exact .inr (decide_eq_true (by simpa using h))
theorem mulOk_r {a b : Int} (h : -18446744073709551616 < a ∧ a < 18446744073709551616) : mulOk a b = true := by
  unfold mulOk
  rw [Bool.or_eq_true]
  exact .inl (decide_eq_true (by simpa using h))
theorem size_line' : sizeLine = 16777216 := by rw [size_line]
/-! ### books, as they are meant -/
inductive Sm where
  | num (n : Int)
  | nm (s : Str)
  | op (w : Str) (a b : Sm)
def encS : Sm → PyData
  | .num n => .int n
  | .nm s => .str s
  | .op w a b => .tuple [.str w, encS a, encS b]
abbrev abcd : List Str := [⟨#[97]⟩, ⟨#[98]⟩, ⟨#[99]⟩, ⟨#[100]⟩]
abbrev opsW : List Str := [⟨#[112, 108, 117, 115]⟩, ⟨#[108, 101, 115, 115]⟩, ⟨#[116, 105, 109, 101, 115]⟩, ⟨#[115, 97, 109, 101]⟩, ⟨#[117, 110, 100, 101, 114]⟩]
abbrev sortsW : List Str := [⟨#[114, 101, 100]⟩, ⟨#[103, 114, 101, 101, 110]⟩, ⟨#[98, 108, 117, 101]⟩]
abbrev wNote : Str := ⟨#[110, 111, 116, 101]⟩
abbrev wPut : Str := ⟨#[112, 117, 116]⟩
abbrev wTell : Str := ⟨#[116, 101, 108, 108]⟩
abbrev wThrow : Str := ⟨#[116, 104, 114, 111, 119]⟩
abbrev wIf : Str := ⟨#[105, 102]⟩
abbrev wTurns : Str := ⟨#[116, 117, 114, 110, 115]⟩
abbrev wCall : Str := ⟨#[99, 97, 108, 108]⟩
abbrev wTry : Str := ⟨#[116, 114, 121]⟩
def WfS : Nat → Sm → Prop
  | _, .num n => 0 ≤ n ∧ n < 1000
  | _, .nm s => s ∈ abcd
  | 0, .op _ _ _ => False
  | d + 1, .op w a b => w ∈ opsW ∧ WfS d a ∧ WfS d b
mutual
inductive Dd where
  | note (a : Sm)
  | put (x : Str) (a : Sm)
  | tell (a : Sm)
  | throw (s : Str) (a : Sm)
  | ite (a : Sm) (b c : Ds)
  | turns (a : Sm) (b : Ds)
  | call (x m : Str) (as : List Sm)
  | try_ (b : Ds) (cs : Cs) (l : Ds)
inductive Ds where
  | nil
  | cons (d : Dd) (r : Ds)
inductive Cs where
  | nil
  | cons (s x : Str) (b : Ds) (r : Cs)
end
mutual
def encD : Dd → PyData
  | .note a => .tuple [.str wNote, encS a]
  | .put x a => .tuple [.str wPut, .str x, encS a]
  | .tell a => .tuple [.str wTell, encS a]
  | .throw s a => .tuple [.str wThrow, .str s, encS a]
  | .ite a b c => .tuple [.str wIf, encS a, .tuple (encDs b), .tuple (encDs c)]
  | .turns a b => .tuple [.str wTurns, encS a, .tuple (encDs b)]
  | .call x m as => .tuple [.str wCall, .str x, .str m, .tuple (as.map encS)]
  | .try_ b cs l => .tuple [.str wTry, .tuple (encDs b), .tuple (encCs cs), .tuple (encDs l)]
def encDs : Ds → List PyData
  | .nil => []
  | .cons d r => encD d :: encDs r
def encCs : Cs → List PyData
  | .nil => []
  | .cons s x b r => .tuple [.str s, .str x, .tuple (encDs b)] :: encCs r
end
def Ds.of : List Dd → Ds
  | [] => .nil
  | d :: r => .cons d (Ds.of r)
def Ds.to : Ds → List Dd
  | .nil => []
  | .cons d r => d :: r.to
theorem enc_of : ∀ l : List Dd, encDs (Ds.of l) = l.map encD
  | [] => rfl
  | d :: r => by show _ :: _ = _; rw [enc_of r]; rfl
theorem enc_to : ∀ b : Ds, encDs b = b.to.map encD
  | .nil => rfl
  | .cons d r => by show _ :: _ = _; rw [enc_to r]; rfl
theorem to_of : ∀ l : List Dd, (Ds.of l).to = l
  | [] => rfl
  | d :: r => by show _ :: _ = _; rw [to_of r]
structure Catch where
  s : Str
  x : Str
  b : Ds
def encC (c : Catch) : PyData := .tuple [.str c.s, .str c.x, .tuple (encDs c.b)]
def Cs.of : List Catch → Cs
  | [] => .nil
  | c :: r => .cons c.s c.x c.b (Cs.of r)
def Cs.to : Cs → List Catch
  | .nil => []
  | .cons s x b r => ⟨s, x, b⟩ :: r.to
theorem encC_of : ∀ l : List Catch, encCs (Cs.of l) = l.map encC
  | [] => rfl
  | d :: r => by show _ :: _ = _; rw [encC_of r]; rfl
theorem encC_to : ∀ b : Cs, encCs b = b.to.map encC
  | .nil => rfl
  | .cons s x b r => by show _ :: _ = _; rw [encC_to r]; rfl
theorem toC_of : ∀ l : List Catch, (Cs.of l).to = l
  | [] => rfl
  | d :: r => by show _ :: _ = _; rw [toC_of r]
abbrev Known := List (Str × Nat)
mutual
/-- a deed as drawn: within it blocks of up to d deep -/
def WfD (kn : Known) (d : Nat) : Dd → Prop
  | .note a => WfS 2 a
  | .put x a => x ∈ abcd ∧ WfS 2 a
  | .tell a => WfS 2 a
  | .throw s a => s ∈ sortsW ∧ WfS 2 a
  | .ite a b c => WfS 2 a ∧ WfB kn d b ∧ WfB kn d c
  | .turns a b => WfS 2 a ∧ WfB kn d b
  | .call x m as => x ∈ abcd ∧ (m, as.length) ∈ kn ∧ ∀ a ∈ as, WfS 1 a
  | .try_ b cs l => WfB kn d b ∧ WfB kn d l ∧ WfCs kn d cs ∧ (cs.to.map (·.s)).Nodup ∧ cs.to.length ≤ 3
/-- a block as drawn: up to d deep -/
def WfB (kn : Known) (d : Nat) : Ds → Prop
  | .nil => True
  | .cons x r => 0 < d ∧ (Ds.cons x r).to.length ≤ 4 ∧ WfD kn (d - 1) x ∧ WfBs kn (d - 1) r
def WfBs (kn : Known) (d : Nat) : Ds → Prop
  | .nil => True
  | .cons x r => WfD kn d x ∧ WfBs kn d r
def WfCs (kn : Known) (d : Nat) : Cs → Prop
  | .nil => True
  | .cons s x b r => s ∈ sortsW ∧ x ∈ abcd ∧ WfB kn d b ∧ WfCs kn d r
end
theorem wfBs_of {kn : Known} {d : Nat} : ∀ l : List Dd, (∀ x ∈ l, WfD kn d x) → WfBs kn d (Ds.of l)
  | [], _ => trivial
  | x :: r, h => ⟨h x (by simp), wfBs_of r fun y hy => h y (by simp [hy])⟩
theorem wfB_of {kn : Known} {d : Nat} (l : List Dd) (hl : l.length ≤ 4) (h : ∀ x ∈ l, WfD kn d x) : WfB kn (d + 1) (Ds.of l) := by
  cases l with
  | nil => exact trivial
  | cons x r => exact ⟨Nat.succ_pos d, by show (x :: (Ds.of r).to).length ≤ 4; rw [to_of]; exact hl, h x (by simp), wfBs_of r fun y hy => h y (by simp [hy])⟩
theorem wfBs_to {kn : Known} {d : Nat} : ∀ {b : Ds}, WfBs kn d b → ∀ x ∈ b.to, WfD kn d x
  | .nil, _, x, h => by cases h
  | .cons y r, ⟨a, t⟩, x, h => by
    rcases List.mem_cons.mp h with rfl | h
    · exact a
    · exact wfBs_to t x h
theorem wfB_to {kn : Known} {d : Nat} {b : Ds} (h : WfB kn d b) : b = .nil ∨ (0 < d ∧ b.to.length ≤ 4 ∧ ∀ x ∈ b.to, WfD kn (d - 1) x) := by
  cases b with
  | nil => exact .inl rfl
  | cons x r =>
    obtain ⟨h1, h2, h3, h4⟩ := h
    refine .inr ⟨h1, h2, fun y hy => ?_⟩
    rcases List.mem_cons.mp hy with rfl | hy
    · exact h3
    · exact wfBs_to h4 y hy
theorem wfCs_of {kn : Known} {d : Nat} : ∀ l : List Catch, (∀ c ∈ l, c.s ∈ sortsW ∧ c.x ∈ abcd ∧ WfB kn d c.b) → WfCs kn d (Cs.of l)
  | [], _ => trivial
  | c :: r, h => ⟨(h c (by simp)).1, (h c (by simp)).2.1, (h c (by simp)).2.2, wfCs_of r fun y hy => h y (by simp [hy])⟩
theorem wfCs_to {kn : Known} {d : Nat} : ∀ {cs : Cs}, WfCs kn d cs → ∀ c ∈ cs.to, c.s ∈ sortsW ∧ c.x ∈ abcd ∧ WfB kn d c.b
  | .nil, _, c, h => by cases h
  | .cons s x b r, ⟨a1, a2, a3, a4⟩, c, h => by
    rcases List.mem_cons.mp h with rfl | h
    · exact ⟨a1, a2, a3⟩
    · exact wfCs_to a4 c h
structure Mk where
  name : Str
  names : List Str
  block : Ds
def encM (m : Mk) : PyData := .tuple [.str m.name, .tuple (m.names.map .str), .tuple (encDs m.block)]
abbrev namesW : List (List Str) := [[], [⟨#[97]⟩], [⟨#[98]⟩, ⟨#[97]⟩], [⟨#[97]⟩, ⟨#[98]⟩, ⟨#[99]⟩]]
abbrev mkW : List Str := [⟨#[111, 110, 101]⟩, ⟨#[102]⟩, ⟨#[116, 119, 111]⟩, ⟨#[103, 111]⟩]
def knownOf (ms : List Mk) : Known := ms.map fun m => (m.name, m.names.length)
def encK (kn : Known) : List PyData := kn.map fun p => .tuple [.str p.1, .int p.2]
/-- a book as drawn -/
inductive WfBook : List Mk → Prop
  | nil : WfBook []
  | snoc {ms : List Mk} {m : Mk} : WfBook ms → ms.length < 4 → mkW[ms.length]? = some m.name → m.names ∈ namesW → (∃ d, d ≤ 4 ∧ WfB (knownOf ms) d m.block) → WfBook (ms ++ [m])
theorem WfBook.ar {ms : List Mk} (h : WfBook ms) : ∀ p ∈ knownOf ms, p.2 ≤ 3 := by
  induction h with
  | nil => intro p hp; cases hp
  | @snoc ms m _ _ _ hn _ ih =>
    intro p hp
    unfold knownOf at hp
    rw [List.map_append] at hp
    rcases List.mem_append.mp hp with hp | hp
    · exact ih p hp
    · simp at hp
      subst hp
      simp [namesW] at hn
      rcases hn with h | h | h | h <;> rw [h] <;> simp
theorem knownOf_snoc (ms : List Mk) (m : Mk) : encK (knownOf (ms ++ [m])) = encK (knownOf ms) ++ [.tuple [.str m.name, .int m.names.length]] := by
  unfold knownOf encK
  simp
end Thr
/-! Words and texts of books. -/
namespace Thr
open PySem
abbrev wsp : Str := ⟨#[32]⟩
abbrev wlb : Str := ⟨#[123]⟩
abbrev wrb : Str := ⟨#[125]⟩
abbrev wsemi : Str := ⟨#[59]⟩
abbrev wCatch : Str := ⟨#[99, 97, 116, 99, 104]⟩
abbrev wLast : Str := ⟨#[108, 97, 115, 116]⟩
abbrev wMaker : Str := ⟨#[109, 97, 107, 101, 114]⟩
abbrev wlp : Str := ⟨#[40]⟩
abbrev wrp : Str := ⟨#[41]⟩
def strI (n : Int) : Str := Str.ofString (toString n)
theorem strI_small : ∀ k : Fin 1000, (strI ((k.val : Nat) : Int)).length ≤ 3 := by decide +kernel
theorem strI_len {n : Int} (h : 0 ≤ n ∧ n < 1000) : (strI n).length ≤ 3 := by
  have := strI_small ⟨n.toNat, by omega⟩
  have e : ((n.toNat : Nat) : Int) = n := by omega
  simp only [e] at this
  exact this
theorem strD_ok {n : Int} (h : 0 ≤ n ∧ n < 1000) : strD (.int n) = some (.str (strI n)) := by
  have h1 : n.natAbs.log2 < 1920 := by
    have : n.natAbs < 2 ^ 10 := by omega
    have := Nat.log2_lt (n := n.natAbs) (k := 10)
    by_cases h0 : n.natAbs = 0
    · rw [h0]; decide
    · have := (this h0).mpr (by omega); omega
  have h2 : (Str.ofString (toString n)).length ≤ sizeLine := by
    have := strI_len h
    rw [size_line']
    unfold strI at this
    omega
  simp only [strD]
  rw [if_pos ⟨h1, h2⟩]; rfl
def sumWords : Sm → List Str
  | .num n => [strI n]
  | .nm s => [s]
  | .op w a b => [w] ++ sumWords a ++ sumWords b
mutual
def deedWords : Dd → List Str
  | .note a => [wNote] ++ sumWords a
  | .put x a => [wPut, x] ++ sumWords a
  | .tell a => [wTell] ++ sumWords a
  | .throw s a => [wThrow, s] ++ sumWords a
  | .ite a b c => [wIf] ++ sumWords a ++ ([wlb] ++ itemsW b ++ [wrb]) ++ ([wlb] ++ itemsW c ++ [wrb])
  | .turns a b => [wTurns] ++ sumWords a ++ ([wlb] ++ itemsW b ++ [wrb])
  | .call x m as => [wCall, x, m] ++ as.flatMap sumWords
  | .try_ b cs l => [wTry] ++ ([wlb] ++ itemsW b ++ [wrb]) ++ catchW cs ++ [wLast] ++ ([wlb] ++ itemsW l ++ [wrb])
def itemsW : Ds → List Str
  | .nil => []
  | .cons d r => (deedWords d ++ [wsemi]) ++ itemsW r
def catchW : Cs → List Str
  | .nil => []
  | .cons s x b r => ([wCatch, s, x] ++ ([wlb] ++ itemsW b ++ [wrb])) ++ catchW r
end
def blockW (b : Ds) : List Str := [wlb] ++ itemsW b ++ [wrb]
def cW (c : Catch) : List Str := [wCatch, c.s, c.x] ++ blockW c.b
theorem itemsW_to : ∀ b : Ds, itemsW b = b.to.flatMap fun d => deedWords d ++ [wsemi]
  | .nil => rfl
  | .cons d r => by show _ ++ itemsW r = _; rw [itemsW_to r]; rfl
theorem catchW_to : ∀ b : Cs, catchW b = b.to.flatMap cW
  | .nil => rfl
  | .cons s x b r => by show _ ++ catchW r = _; rw [catchW_to r]; rfl
def makerW (m : Mk) : List Str := [wMaker, m.name, wlp] ++ m.names ++ [wrp] ++ blockW m.block
def bookW (ms : List Mk) : List Str := ms.flatMap makerW
theorem ne_sum (s : Sm) : sumWords s ≠ [] := by cases s <;> simp [sumWords]
theorem ne_deed (x : Dd) : deedWords x ≠ [] := by cases x <;> simp [deedWords]
theorem ne_blk (b : Ds) : blockW b ≠ [] := by simp [blockW]
/-! lengths -/
def tot (ws : List Str) : Nat := (ws.map (·.length + 1)).sum
theorem tot_nil : tot [] = 0 := rfl
theorem tot_cons (w : Str) (ws : List Str) : tot (w :: ws) = w.length + 1 + tot ws := rfl
theorem tot_app (a b : List Str) : tot (a ++ b) = tot a + tot b := by
  unfold tot; rw [List.map_append, List.sum_append]
theorem tot_len (ws : List Str) : ws.length ≤ tot ws := by
  induction ws with
  | nil => exact Nat.le_refl _
  | cons w r ih => rw [tot_cons, List.length_cons]; omega
theorem tot_flat {α : Type} (f : α → List Str) (B : Nat) : ∀ xs : List α, (∀ x ∈ xs, tot (f x) ≤ B) → tot (xs.flatMap f) ≤ xs.length * B
  | [], _ => Nat.zero_le _
  | x :: r, h => by
    rw [List.flatMap_cons, tot_app, List.length_cons, Nat.succ_mul]
    have := tot_flat f B r fun y hy => h y (by simp [hy])
    have := h x (by simp)
    omega
theorem sl_add (a b : Str) : (a ++ b).length = a.length + b.length := by
  show (a.cps ++ b.cps).size = _
  rw [Array.size_append]; rfl
def jn (ws : List Str) : Str := Str.join wsp ws
theorem jn_cons2 (x y : Str) (r : List Str) : jn (x :: y :: r) = x ++ wsp ++ jn (y :: r) := rfl
theorem sa_assoc (a b c : Str) : a ++ b ++ c = a ++ (b ++ c) := by
  show (⟨a.cps ++ b.cps ++ c.cps⟩ : Str) = ⟨a.cps ++ (b.cps ++ c.cps)⟩
  rw [Array.append_assoc]
theorem jn_app : ∀ {a b : List Str}, a ≠ [] → b ≠ [] → jn (a ++ b) = jn a ++ wsp ++ jn b
  | [], _, h, _ => absurd rfl h
  | [x], [], _, h => absurd rfl h
  | [x], y :: r, _, _ => rfl
  | x :: y :: r, b, _, h => by
    show x ++ wsp ++ jn (y :: r ++ b) = x ++ wsp ++ jn (y :: r) ++ wsp ++ jn b
    rw [jn_app (by simp) h]
    simp only [sa_assoc]
theorem jn_flat : ∀ {Ls : List (List Str)}, (∀ l ∈ Ls, l ≠ []) → jn (Ls.map jn) = jn Ls.flatten
  | [], _ => rfl
  | [l], _ => by simp [jn, Str.join]
  | l :: m :: r, h => by
    show jn l ++ wsp ++ jn ((m :: r).map jn) = jn (l ++ (m :: r).flatten)
    rw [jn_flat fun x hx => h x (by simp [hx]), jn_app (h l (by simp))]
    intro e
    have := h m (by simp)
    simp at e
    exact this e.1
theorem jn_one (w : Str) : jn [w] = w := rfl
theorem jn_len : ∀ ws : List Str, (jn ws).length ≤ tot ws
  | [] => Nat.le_refl _
  | [x] => by rw [jn_one, tot_cons]; omega
  | x :: y :: r => by
    have := jn_len (y :: r)
    rw [jn_cons2, sl_add, sl_add, tot_cons]
    have : wsp.length = 1 := rfl
    omega
theorem tot_sum (ws : List Str) : (ws.map (·.length)).sum + ws.length * 1 = tot ws := by
  induction ws with
  | nil => rfl
  | cons w r ih => rw [tot_cons, List.map_cons, List.sum_cons, List.length_cons]; omega
theorem strs_map : ∀ ws : List Str, strsOf (ws.map .str) = some ws
  | [] => rfl
  | w :: r => by simp [strsOf, strs_map r]
theorem join_list {ws : List Str} (h : tot ws ≤ 16777216) : joinD (.str wsp) (.list (ws.map .str)) = some (.str (jn ws)) := by
  have := tot_sum ws
  have e : wsp.length = 1 := rfl
  simp only [joinD, strs_map, Option.bind_some, e]
  rw [if_pos (by omega)]; rfl
theorem join_tuple {ws : List Str} (h : tot ws ≤ 16777216) : joinD (.str wsp) (.tuple (ws.map .str)) = some (.str (jn ws)) := by
  have := tot_sum ws
  have e : wsp.length = 1 := rfl
  simp only [joinD, strs_map, Option.bind_some, e]
  rw [if_pos (by omega)]; rfl
theorem sl_lit (a : Array Nat) : Str.length ⟨a⟩ = a.size := rfl
theorem addD_int (a b : Int) : addD [.int a, .int b] = some (.int (a + b)) := rfl
theorem addD_str {a b : Str} (h : a.length + b.length ≤ 16777216) : addD [.str a, .str b] = some (.str (a ++ b)) := by
  simp only [addD, size_line']; rw [if_pos h]
theorem addD_list {a b : List PyData} (h : a.length + b.length ≤ 16777216) : addD [.list a, .list b] = some (.list (a ++ b)) := by
  simp only [addD, size_line']; rw [if_pos h]
theorem addD_tuple {a b : List PyData} (h : a.length + b.length ≤ 16777216) : addD [.tuple a, .tuple b] = some (.tuple (a ++ b)) := by
  simp only [addD, size_line']; rw [if_pos h]
/-! how long they are at most -/
def SB : Nat → Nat
  | 0 => 4
  | d + 1 => 6 + 2 * SB d
def BB : Nat → Nat
  | 0 => 4
  | d + 1 => 252 + 20 * BB d
theorem len_abcd {s : Str} (h : s ∈ abcd) : s.length = 1 := by
  simp at h; rcases h with rfl | rfl | rfl | rfl <;> rfl
theorem len_sorts {s : Str} (h : s ∈ sortsW) : s.length ≤ 5 := by
  simp at h; rcases h with rfl | rfl | rfl <;> decide
theorem len_ops {s : Str} (h : s ∈ opsW) : s.length ≤ 5 := by
  simp at h; rcases h with rfl | rfl | rfl | rfl | rfl <;> decide
theorem tot_sm : ∀ (d : Nat) (s : Sm), WfS d s → tot (sumWords s) ≤ SB d
  | d, .num n, h => by
    have : (strI n).length ≤ 3 := strI_len (by cases d <;> exact h)
    have : 4 ≤ SB d := by cases d <;> simp only [SB] <;> omega
    show (strI n).length + 1 + 0 ≤ _
    omega
  | d, .nm s, h => by
    have : s.length = 1 := len_abcd (by cases d <;> exact h)
    have : 4 ≤ SB d := by cases d <;> simp only [SB] <;> omega
    show s.length + 1 + 0 ≤ _
    omega
  | 0, .op _ _ _, h => h.elim
  | d + 1, .op w a b, ⟨h1, h2, h3⟩ => by
    have := len_ops h1
    have := tot_sm d a h2
    have := tot_sm d b h3
    simp only [sumWords, tot_app, tot_cons, tot_nil, SB]
    omega
theorem SB2 : SB 2 = 34 := rfl
theorem SB1 : SB 1 = 14 := rfl
theorem BB_ge : ∀ d, 4 ≤ BB d
  | 0 => Nat.le_refl _
  | d + 1 => by simp only [BB]; omega
theorem tot_dd {kn : Known} (hkn : ∀ p ∈ kn, p.1.length ≤ 3 ∧ p.2 ≤ 3) {d : Nat} (hb : ∀ b, WfB kn d b → tot (blockW b) ≤ BB d) (x : Dd) (h : WfD kn d x) : tot (deedWords x) + 2 ≤ 62 + 5 * BB d := by
  have g := BB_ge d
  cases x with
  | note a =>
    have := tot_sm 2 a h
    simp only [deedWords, tot_app, tot_cons, tot_nil, SB2] at this ⊢
    have : wNote.length = 4 := rfl
    omega
  | put x a =>
    have := len_abcd h.1
    have := tot_sm 2 a h.2
    simp only [deedWords, tot_app, tot_cons, tot_nil, SB2] at this ⊢
    have : wPut.length = 3 := rfl
    omega
  | tell a =>
    have := tot_sm 2 a h
    simp only [deedWords, tot_app, tot_cons, tot_nil, SB2] at this ⊢
    have : wTell.length = 4 := rfl
    omega
  | throw s a =>
    have := len_sorts h.1
    have := tot_sm 2 a h.2
    simp only [deedWords, tot_app, tot_cons, tot_nil, SB2] at this ⊢
    have : wThrow.length = 5 := rfl
    omega
  | ite a b c =>
    have := tot_sm 2 a h.1
    have := hb b h.2.1
    have := hb c h.2.2
    simp only [deedWords, blockW, tot_app, tot_cons, tot_nil, SB2] at *
    have : wIf.length = 2 := rfl
    omega
  | turns a b =>
    have := tot_sm 2 a h.1
    have := hb b h.2
    simp only [deedWords, blockW, tot_app, tot_cons, tot_nil, SB2] at *
    have : wTurns.length = 5 := rfl
    omega
  | call x m as =>
    have := len_abcd h.1
    obtain ⟨q1, q2⟩ := hkn _ h.2.1
    have := tot_flat sumWords 14 as fun a ha => tot_sm 1 a (h.2.2 a ha)
    simp only [deedWords, tot_app, tot_cons, tot_nil] at *
    have : wCall.length = 4 := rfl
    omega
  | try_ b cs l =>
    obtain ⟨h1, h2, h3, _, h5⟩ := h
    have := hb b h1
    have := hb l h2
    have q : tot (catchW cs) ≤ cs.to.length * (14 + BB d) := by
      rw [catchW_to]
      refine tot_flat cW _ _ fun c hc => ?_
      obtain ⟨a1, a2, a3⟩ := wfCs_to h3 c hc
      have := len_sorts a1
      have := len_abcd a2
      have := hb _ a3
      simp only [cW, tot_app, tot_cons, tot_nil] at *
      have : wCatch.length = 5 := rfl
      omega
    have q2 : cs.to.length * (14 + BB d) ≤ 3 * (14 + BB d) := Nat.mul_le_mul_right _ h5
    simp only [deedWords, blockW, tot_app, tot_cons, tot_nil] at *
    have : wTry.length = 3 := rfl
    have : wLast.length = 4 := rfl
    omega
theorem tot_blk {kn : Known} (hkn : ∀ p ∈ kn, p.1.length ≤ 3 ∧ p.2 ≤ 3) : ∀ (d : Nat) (b : Ds), WfB kn d b → tot (blockW b) ≤ BB d
  | 0, b, h => by
    rcases wfB_to h with rfl | ⟨h, _⟩
    · decide
    · omega
  | d + 1, b, h => by
    rcases wfB_to h with rfl | ⟨_, h2, h3⟩
    · have := BB_ge (d + 1)
      exact this
    · have q := tot_flat (fun d => deedWords d ++ [wsemi]) (62 + 5 * BB d) b.to fun x hx => by
        have := tot_dd hkn (fun b hb => tot_blk hkn d b hb) x (h3 x hx)
        rw [tot_app]
        have : tot [wsemi] = 2 := rfl
        omega
      have q2 : b.to.length * (62 + 5 * BB d) ≤ 4 * (62 + 5 * BB d) := Nat.mul_le_mul_right _ h2
      simp only [blockW, itemsW_to, tot_app]
      have : tot [wlb] = 2 := rfl
      have : tot [wrb] = 2 := rfl
      simp only [BB]
      omega
theorem jn_join (Ls : List (List Str)) (h : ∀ l ∈ Ls, l ≠ []) (ht : tot Ls.flatten + Ls.length ≤ 16777216) : joinD (.str wsp) (.list ((Ls.map jn).map .str)) = some (.str (jn Ls.flatten)) ∧ joinD (.str wsp) (.tuple ((Ls.map jn).map .str)) = some (.str (jn Ls.flatten)) := by
  have q : tot (Ls.map jn) ≤ tot Ls.flatten + Ls.length := by
    clear h ht
    induction Ls with
    | nil => exact Nat.le_refl _
    | cons l r ih =>
      have := jn_len l
      rw [List.map_cons, tot_cons, List.flatten_cons, tot_app, List.length_cons]
      omega
  rw [← jn_flat h]
  exact ⟨join_list (by omega), join_tuple (by omega)⟩
theorem catch_lit : (⟨#[32, 99, 97, 116, 99, 104, 32]⟩ : Str) = wsp ++ wCatch ++ wsp := rfl
theorem last_lit : (⟨#[32, 108, 97, 115, 116, 32]⟩ : Str) = wsp ++ wLast ++ wsp := rfl
theorem try_lit : (⟨#[116, 114, 121, 32]⟩ : Str) = wTry ++ wsp := rfl
theorem semi_lit : (⟨#[32, 59]⟩ : Str) = wsp ++ wsemi := rfl
theorem rb_lit : (⟨#[32, 125]⟩ : Str) = wsp ++ wrb := rfl
theorem jn_catch {ws : List Str} (h : ws ≠ []) (c : Catch) : jn ws ++ ⟨#[32, 99, 97, 116, 99, 104, 32]⟩ ++ c.s ++ wsp ++ c.x ++ wsp ++ jn (blockW c.b) = jn (ws ++ cW c) := by
  rw [jn_app h (by simp [cW]), cW, jn_app (by simp) (ne_blk _), catch_lit]
  show _ = jn ws ++ wsp ++ (wCatch ++ wsp ++ (c.s ++ wsp ++ c.x) ++ wsp ++ jn (blockW c.b))
  simp only [sa_assoc]
theorem jn_item {ws : List Str} (h : ws ≠ []) (x : Dd) : jn ws ++ wsp ++ jn (deedWords x) ++ ⟨#[32, 59]⟩ = jn (ws ++ (deedWords x ++ [wsemi])) := by
  rw [jn_app h (by simp), jn_app (ne_deed x) (by simp), semi_lit]
  show _ = jn ws ++ wsp ++ (jn (deedWords x) ++ wsp ++ wsemi)
  simp only [sa_assoc]
theorem jn_end {ws : List Str} (h : ws ≠ []) : jn ws ++ ⟨#[32, 125]⟩ = jn (ws ++ [wrb]) := by
  rw [jn_app h (by simp), rb_lit]
  show _ = jn ws ++ wsp ++ wrb
  simp only [sa_assoc]
theorem jn_try (b : Ds) : (⟨#[116, 114, 121, 32]⟩ : Str) ++ jn (blockW b) = jn ([wTry] ++ blockW b) := by
  rw [jn_app (by simp) (ne_blk b), try_lit]; rfl
theorem jn_last {ws : List Str} (h : ws ≠ []) (b : Ds) : jn ws ++ ⟨#[32, 108, 97, 115, 116, 32]⟩ ++ jn (blockW b) = jn (ws ++ ([wLast] ++ blockW b)) := by
  rw [jn_app h (by simp), jn_app (by simp) (ne_blk b), last_lit]
  show _ = jn ws ++ wsp ++ (wLast ++ wsp ++ jn (blockW b))
  simp only [sa_assoc]
theorem dw_try (b : Ds) (cs : Cs) (l : Ds) : deedWords (.try_ b cs l) = [wTry] ++ blockW b ++ cs.to.flatMap cW ++ [wLast] ++ blockW l := by
  simp only [deedWords, catchW_to, blockW]
theorem dw_ite (a : Sm) (b c : Ds) : deedWords (.ite a b c) = [wIf] ++ sumWords a ++ blockW b ++ blockW c := rfl
theorem dw_turns (a : Sm) (b : Ds) : deedWords (.turns a b) = [wTurns] ++ sumWords a ++ blockW b := rfl
theorem dw_call (x m : Str) (as : List Sm) : deedWords (.call x m as) = [wCall, x, m] ++ as.flatMap sumWords := rfl
end Thr
namespace Thr
open PySem
/-- what is known of each maker -/
structure MkOk (m : Mk) : Prop where
  nm : m.name.length ≤ 3
  nl : m.names.length ≤ 3
  ns : ∀ w ∈ m.names, w.length ≤ 1
  bl : ∃ (kn : Known) (d : Nat), (∀ p ∈ kn, p.1.length ≤ 3 ∧ p.2 ≤ 3) ∧ d ≤ 4 ∧ WfB kn d m.block
theorem mk_len {i : Nat} {s : Str} (h : mkW[i]? = some s) : s.length ≤ 3 := by
  have : s ∈ mkW := List.mem_of_getElem? h
  simp at this
  rcases this with rfl | rfl | rfl | rfl <;> decide
theorem WfBook.mk_ok {ms : List Mk} (h : WfBook ms) : ms.length ≤ 4 ∧ (∀ p ∈ knownOf ms, p.1.length ≤ 3 ∧ p.2 ≤ 3) ∧ ∀ m ∈ ms, MkOk m := by
  induction h with
  | nil => exact ⟨by simp, (by intro p hp; cases hp), (by intro m hm; cases hm)⟩
  | @snoc ms m hw hl hm hn hb ih =>
    have hnl : m.names.length ≤ 3 ∧ ∀ w ∈ m.names, w.length ≤ 1 := by
      simp [namesW] at hn
      rcases hn with h | h | h | h <;> rw [h] <;> simp [Str.length]
    obtain ⟨d, hd, hb⟩ := hb
    refine ⟨by rw [List.length_append]; simp only [List.length_singleton]; omega, ?_, ?_⟩
    · intro p hp
      unfold knownOf at hp
      rw [List.map_append] at hp
      rcases List.mem_append.mp hp with hp | hp
      · exact ih.2.1 p hp
      · simp at hp
        subst hp
        exact ⟨mk_len hm, hnl.1⟩
    · intro m' hm'
      rcases List.mem_append.mp hm' with h | h
      · exact ih.2.2 m' h
      · simp at h
        subst h
        exact ⟨mk_len hm, hnl.1, hnl.2, _, d, ih.2.1, hd, hb⟩
theorem BB_le {d : Nat} (h : d ≤ 4) : BB d ≤ 2762092 := by
  match d, h with
  | 0, _ => decide
  | 1, _ => decide
  | 2, _ => decide
  | 3, _ => decide
  | 4, _ => decide
theorem tot_maker {m : Mk} (h : MkOk m) : tot (blockW m.block) ≤ 2762092 ∧ tot m.names ≤ 6 ∧ tot (makerW m) ≤ 2763000 := by
  obtain ⟨h1, h2, h3, kn, d, hk, hd, hb⟩ := h
  have q := tot_blk hk d _ hb
  have q2 := BB_le hd
  have q3 : tot m.names ≤ 6 := by
    have : ∀ l : List Str, (∀ w ∈ l, w.length ≤ 1) → tot l ≤ l.length * 2 := by
      intro l
      induction l with
      | nil => intro _; exact Nat.le_refl _
      | cons w r ih =>
        intro h
        have := ih fun w hw => h w (by simp [hw])
        have := h w (by simp)
        rw [tot_cons, List.length_cons]; omega
    have := this m.names h3
    omega
  refine ⟨by omega, q3, ?_⟩
  simp only [makerW, tot_app, tot_cons, tot_nil]
  have : wMaker.length = 5 := rfl
  have : wlp.length = 1 := rfl
  have : wrp.length = 1 := rfl
  omega
theorem tot_book {ms : List Mk} (hl : ms.length ≤ 4) (h : ∀ m ∈ ms, MkOk m) : tot (bookW ms) ≤ 12000000 := by
  have q := tot_flat makerW 2763000 ms fun m hm => (tot_maker (h m hm)).2.2
  have : ms.length * 2763000 ≤ 4 * 2763000 := Nat.mul_le_mul_right _ hl
  unfold bookW
  omega
theorem ne_maker (m : Mk) : makerW m ≠ [] := by simp [makerW]
end Thr
namespace K03
open PySem Thr
def f_sum_words : Fn := ⟨1, 1, (.cons (.ite (.not (.prim (.isinst .tuple) (.cons (.var 0) .nil))) (.cons (.ret (.prim .lst (.cons (.prim .strOf (.cons (.var 0) .nil)) .nil)))
    .nil) .nil)
    (.cons (.ret (.prim .add (.cons (.prim .add (.cons (.prim .lst (.cons (.prim .ix (.cons (.var 0) (.cons (.lit (.int 0)) .nil))) .nil)) (.cons (.call 0 (.cons (.prim .ix (.cons (.var 0) (.cons (.lit (.int 1)) .nil))) .nil)) .nil))) (.cons (.call 0 (.cons (.prim .ix (.cons (.var 0) (.cons (.lit (.int 2)) .nil))) .nil)) .nil))))
    .nil))⟩
def lb_try_words_0 : Ss := (.cons (.set 1 (.prim .add (.cons (.prim .add (.cons (.var 1) (.cons (.prim .lst (.cons (.lit (.str ⟨#[99, 97, 116, 99, 104]⟩)) (.cons (.var 2) (.cons (.var 3) .nil)))) .nil))) (.cons (.call 3 (.cons (.var 4) .nil)) .nil))))
    .nil)
def lp_try_words_0 : S := .for (.many [2, 3, 4]) .seq (.cons (.prim .ix (.cons (.var 0) (.cons (.lit (.int 2)) .nil))) .nil) lb_try_words_0
def f_try_words : Fn := ⟨1, 5, (.cons (.set 1 (.prim .add (.cons (.prim .lst (.cons (.lit (.str ⟨#[116, 114, 121]⟩)) .nil)) (.cons (.call 3 (.cons (.prim .ix (.cons (.var 0) (.cons (.lit (.int 1)) .nil))) .nil)) .nil))))
    (.cons lp_try_words_0
    (.cons (.ret (.prim .add (.cons (.prim .add (.cons (.var 1) (.cons (.prim .lst (.cons (.lit (.str ⟨#[108, 97, 115, 116]⟩)) .nil)) .nil))) (.cons (.call 3 (.cons (.prim .ix (.cons (.var 0) (.cons (.lit (.int 3)) .nil))) .nil)) .nil))))
    .nil)))⟩
def lb_deed_words_0 : Ss := (.cons (.set 2 (.prim .add (.cons (.var 2) (.cons (.call 3 (.cons (.var 3) .nil)) .nil))))
    .nil)
def lp_deed_words_0 : S := .for (.one 3) .seq (.cons (.prim .slcL (.cons (.var 0) (.cons (.lit (.int 2)) .nil))) .nil) lb_deed_words_0
def lb_deed_words_1 : Ss := (.cons (.set 2 (.prim .add (.cons (.var 2) (.cons (.call 0 (.cons (.var 4) .nil)) .nil))))
    .nil)
def lp_deed_words_1 : S := .for (.one 4) .seq (.cons (.prim .ix (.cons (.var 0) (.cons (.lit (.int 3)) .nil))) .nil) lb_deed_words_1
def f_deed_words : Fn := ⟨1, 5, (.cons (.set 1 (.prim .ix (.cons (.var 0) (.cons (.lit (.int 0)) .nil))))
    (.cons (.ite (.prim .eq (.cons (.var 1) (.cons (.lit (.str ⟨#[116, 114, 121]⟩)) .nil))) (.cons (.ret (.call 1 (.cons (.var 0) .nil)))
    .nil) .nil)
    (.cons (.ite (.prim .isin (.cons (.var 1) (.cons (.prim .tup (.cons (.lit (.str ⟨#[105, 102]⟩)) (.cons (.lit (.str ⟨#[116, 117, 114, 110, 115]⟩)) .nil))) .nil))) (.cons (.set 2 (.prim .add (.cons (.prim .lst (.cons (.var 1) .nil)) (.cons (.call 0 (.cons (.prim .ix (.cons (.var 0) (.cons (.lit (.int 1)) .nil))) .nil)) .nil))))
    (.cons lp_deed_words_0
    (.cons (.ret (.var 2))
    .nil))) .nil)
    (.cons (.ite (.prim .eq (.cons (.var 1) (.cons (.lit (.str ⟨#[99, 97, 108, 108]⟩)) .nil))) (.cons (.set 2 (.prim .lst (.cons (.var 1) (.cons (.prim .ix (.cons (.var 0) (.cons (.lit (.int 1)) .nil))) (.cons (.prim .ix (.cons (.var 0) (.cons (.lit (.int 2)) .nil))) .nil)))))
    (.cons lp_deed_words_1
    (.cons (.ret (.var 2))
    .nil))) .nil)
    (.cons (.ret (.prim .add (.cons (.prim .add (.cons (.prim .lst (.cons (.var 1) .nil)) (.cons (.prim .lstOf (.cons (.prim .slcLH (.cons (.var 0) (.cons (.lit (.int 1)) (.cons (.prim .neg (.cons (.lit (.int 1)) .nil)) .nil)))) .nil)) .nil))) (.cons (.call 0 (.cons (.prim .ix (.cons (.var 0) (.cons (.prim .neg (.cons (.lit (.int 1)) .nil)) .nil))) .nil)) .nil))))
    .nil)))))⟩
def lb_block_words_0 : Ss := (.cons (.set 1 (.prim .add (.cons (.prim .add (.cons (.var 1) (.cons (.call 2 (.cons (.var 2) .nil)) .nil))) (.cons (.prim .lst (.cons (.lit (.str ⟨#[59]⟩)) .nil)) .nil))))
    .nil)
def lp_block_words_0 : S := .for (.one 2) .seq (.cons (.var 0) .nil) lb_block_words_0
def f_block_words : Fn := ⟨1, 3, (.cons (.set 1 (.prim .lst (.cons (.lit (.str ⟨#[123]⟩)) .nil)))
    (.cons lp_block_words_0
    (.cons (.ret (.prim .add (.cons (.var 1) (.cons (.prim .lst (.cons (.lit (.str ⟨#[125]⟩)) .nil)) .nil))))
    .nil)))⟩
def f_maker_words : Fn := ⟨1, 1, (.cons (.ret (.prim .add (.cons (.prim .add (.cons (.prim .add (.cons (.prim .lst (.cons (.lit (.str ⟨#[109, 97, 107, 101, 114]⟩)) (.cons (.prim .ix (.cons (.var 0) (.cons (.lit (.int 0)) .nil))) (.cons (.lit (.str ⟨#[40]⟩)) .nil)))) (.cons (.prim .lstOf (.cons (.prim .ix (.cons (.var 0) (.cons (.lit (.int 1)) .nil))) .nil)) .nil))) (.cons (.prim .lst (.cons (.lit (.str ⟨#[41]⟩)) .nil)) .nil))) (.cons (.call 3 (.cons (.prim .ix (.cons (.var 0) (.cons (.lit (.int 2)) .nil))) .nil)) .nil))))
    .nil)⟩
def lb_written_0 : Ss := (.cons (.set 1 (.prim .add (.cons (.var 1) (.cons (.call 4 (.cons (.var 2) .nil)) .nil))))
    .nil)
def lp_written_0 : S := .for (.one 2) .seq (.cons (.var 0) .nil) lb_written_0
def f_written : Fn := ⟨1, 3, (.cons (.set 1 (.prim .lst .nil))
    (.cons lp_written_0
    (.cons (.ret (.meth .join (.lit (.str ⟨#[32]⟩)) (.cons (.var 1) .nil)))
    .nil)))⟩
def f_law_cell_at : Fn := ⟨2, 2, (.cons (.ite (.prim .lt (.cons (.var 1) (.cons (.prim .len (.cons (.var 0) .nil)) .nil))) (.cons (.ret (.prim .ix (.cons (.var 0) (.cons (.var 1) .nil))))
    .nil) .nil)
    (.cons (.ret (.lit (.int 0)))
    .nil))⟩
def f_law_mixed : Fn := ⟨2, 3, (.cons (.set 2 (.prim .mod (.cons (.prim .mul (.cons (.prim .add (.cons (.prim .add (.cons (.call 6 (.cons (.var 0) (.cons (.var 1) .nil))) (.cons (.prim .mul (.cons (.lit (.int 7919)) (.cons (.var 1) .nil))) .nil))) (.cons (.lit (.int 1)) .nil))) (.cons (.lit (.int 48271)) .nil))) (.cons (.lit (.int 2147483647)) .nil))))
    (.cons (.ret (.prim .mod (.cons (.prim .add (.cons (.prim .add (.cons (.prim .mul (.cons (.var 2) (.cons (.var 2) .nil))) (.cons (.prim .mul (.cons (.lit (.int 7)) (.cons (.var 2) .nil))) .nil))) (.cons (.var 1) .nil))) (.cons (.lit (.int 2147483629)) .nil))))
    .nil))⟩
def f_law_drawn : Fn := ⟨2, 3, (.cons (.set 2 (.prim .mod (.cons (.prim .mul (.cons (.prim .add (.cons (.prim .add (.cons (.var 0) (.cons (.prim .mul (.cons (.lit (.int 104729)) (.cons (.var 1) .nil))) .nil))) (.cons (.lit (.int 17)) .nil))) (.cons (.lit (.int 69621)) .nil))) (.cons (.lit (.int 2147483647)) .nil))))
    (.cons (.ret (.prim .mod (.cons (.prim .add (.cons (.prim .add (.cons (.prim .mul (.cons (.var 2) (.cons (.var 2) .nil))) (.cons (.prim .mul (.cons (.lit (.int 3)) (.cons (.var 2) .nil))) .nil))) (.cons (.var 1) .nil))) (.cons (.lit (.int 2147483629)) .nil))))
    .nil))⟩
def f_law_sum : Fn := ⟨2, 4, (.cons (.ite (.or (.cons (.prim .eq (.cons (.var 1) (.cons (.lit (.int 0)) .nil))) (.cons (.prim .eq (.cons (.prim .mod (.cons (.var 0) (.cons (.lit (.int 3)) .nil))) (.cons (.lit (.int 0)) .nil))) .nil))) (.cons (.set 3 (.prim .lst (.cons (.prim .mod (.cons (.prim .fdiv (.cons (.var 0) (.cons (.lit (.int 3)) .nil))) (.cons (.lit (.int 1000)) .nil))) (.cons (.prim .mod (.cons (.prim .fdiv (.cons (.var 0) (.cons (.lit (.int 3)) .nil))) (.cons (.lit (.int 4)) .nil))) (.cons (.prim .ix (.cons (.prim .lst (.cons (.lit (.str ⟨#[97]⟩)) (.cons (.lit (.str ⟨#[98]⟩)) (.cons (.lit (.str ⟨#[99]⟩)) (.cons (.lit (.str ⟨#[100]⟩)) .nil))))) (.cons (.prim .mod (.cons (.prim .fdiv (.cons (.var 0) (.cons (.lit (.int 12)) .nil))) (.cons (.lit (.int 4)) .nil))) .nil))) .nil)))))
    (.cons (.ret (.prim .ix (.cons (.var 3) (.cons (.prim .mod (.cons (.prim .fdiv (.cons (.var 0) (.cons (.lit (.int 48)) .nil))) (.cons (.lit (.int 3)) .nil))) .nil))))
    .nil)) .nil)
    (.cons (.set 2 (.prim .ix (.cons (.prim .tup (.cons (.lit (.str ⟨#[112, 108, 117, 115]⟩)) (.cons (.lit (.str ⟨#[108, 101, 115, 115]⟩)) (.cons (.lit (.str ⟨#[116, 105, 109, 101, 115]⟩)) (.cons (.lit (.str ⟨#[115, 97, 109, 101]⟩)) (.cons (.lit (.str ⟨#[117, 110, 100, 101, 114]⟩)) (.cons (.lit (.str ⟨#[112, 108, 117, 115]⟩)) .nil))))))) (.cons (.prim .mod (.cons (.prim .fdiv (.cons (.var 0) (.cons (.lit (.int 3)) .nil))) (.cons (.lit (.int 6)) .nil))) .nil))))
    (.cons (.ret (.prim .tup (.cons (.var 2) (.cons (.call 9 (.cons (.prim .fdiv (.cons (.call 8 (.cons (.var 0) (.cons (.lit (.int 1)) .nil))) (.cons (.lit (.int 4)) .nil))) (.cons (.prim .sub (.cons (.var 1) (.cons (.lit (.int 1)) .nil))) .nil))) (.cons (.call 9 (.cons (.prim .fdiv (.cons (.call 8 (.cons (.var 0) (.cons (.lit (.int 2)) .nil))) (.cons (.lit (.int 4)) .nil))) (.cons (.prim .sub (.cons (.var 1) (.cons (.lit (.int 1)) .nil))) .nil))) .nil)))))
    .nil)))⟩
def lb_law_try_0 : Ss := (.cons (.ite (.prim .eq (.cons (.prim .mod (.cons (.prim .fdiv (.cons (.var 0) (.cons (.prim .ix (.cons (.prim .tup (.cons (.lit (.int 8)) (.cons (.lit (.int 16)) (.cons (.lit (.int 32)) .nil)))) (.cons (.var 5) .nil))) .nil))) (.cons (.lit (.int 2)) .nil))) (.cons (.lit (.int 0)) .nil))) (.cons (.set 7 (.call 12 (.cons (.prim .fdiv (.cons (.call 8 (.cons (.var 0) (.cons (.prim .add (.cons (.lit (.int 20)) (.cons (.var 5) .nil))) .nil))) (.cons (.lit (.int 4)) .nil))) (.cons (.var 1) (.cons (.var 2) .nil)))))
    (.cons (.expr (.meth .append (.var 3) (.cons (.prim .tup (.cons (.var 6) (.cons (.prim .ix (.cons (.lit (.str ⟨#[97, 98, 99, 100]⟩)) (.cons (.prim .mod (.cons (.prim .fdiv (.cons (.var 0) (.cons (.lit (.int 64)) .nil))) (.cons (.lit (.int 4)) .nil))) .nil))) (.cons (.var 7) .nil)))) .nil)))
    .nil)) .nil)
    .nil)
def lp_law_try_0 : S := .for (.many [5, 6]) .enum (.cons (.prim .ix (.cons (.prim .lst (.cons (.prim .tup (.cons (.lit (.str ⟨#[114, 101, 100]⟩)) (.cons (.lit (.str ⟨#[103, 114, 101, 101, 110]⟩)) (.cons (.lit (.str ⟨#[98, 108, 117, 101]⟩)) .nil)))) (.cons (.prim .tup (.cons (.lit (.str ⟨#[98, 108, 117, 101]⟩)) (.cons (.lit (.str ⟨#[114, 101, 100]⟩)) (.cons (.lit (.str ⟨#[103, 114, 101, 101, 110]⟩)) .nil)))) .nil))) (.cons (.prim .mod (.cons (.prim .fdiv (.cons (.var 0) (.cons (.lit (.int 4)) .nil))) (.cons (.lit (.int 2)) .nil))) .nil))) .nil) lb_law_try_0
def f_law_try : Fn := ⟨3, 8, (.cons (.set 3 (.prim .boxL .nil))
    (.cons lp_law_try_0
    (.cons (.set 4 (.prim .tup .nil))
    (.cons (.ite (.prim .eq (.cons (.prim .mod (.cons (.prim .fdiv (.cons (.var 0) (.cons (.lit (.int 256)) .nil))) (.cons (.lit (.int 2)) .nil))) (.cons (.lit (.int 0)) .nil))) (.cons (.set 4 (.call 12 (.cons (.prim .fdiv (.cons (.call 8 (.cons (.var 0) (.cons (.lit (.int 24)) .nil))) (.cons (.lit (.int 4)) .nil))) (.cons (.var 1) (.cons (.var 2) .nil)))))
    .nil) .nil)
    (.cons (.ret (.prim .tup (.cons (.lit (.str ⟨#[116, 114, 121]⟩)) (.cons (.call 12 (.cons (.prim .fdiv (.cons (.call 8 (.cons (.var 0) (.cons (.lit (.int 25)) .nil))) (.cons (.lit (.int 4)) .nil))) (.cons (.var 1) (.cons (.var 2) .nil)))) (.cons (.prim .tupOf (.cons (.var 3) .nil)) (.cons (.var 4) .nil))))))
    .nil)))))⟩
def cp_law_deed_0 : E := .comp (.one 9) .range (.cons (.var 7) .nil) none (.call 9 (.cons (.prim .fdiv (.cons (.call 8 (.cons (.var 0) (.cons (.prim .add (.cons (.lit (.int 31)) (.cons (.var 9) .nil))) .nil))) (.cons (.lit (.int 4)) .nil))) (.cons (.lit (.int 1)) .nil)))
def cp_law_deed_1 : E := .comp (.one 9) .range (.cons (.lit (.int 2)) .nil) none (.call 12 (.cons (.prim .fdiv (.cons (.call 8 (.cons (.var 0) (.cons (.prim .add (.cons (.lit (.int 40)) (.cons (.var 9) .nil))) .nil))) (.cons (.lit (.int 4)) .nil))) (.cons (.var 1) (.cons (.var 2) .nil))))
def f_law_deed : Fn := ⟨3, 10, (.cons (.set 3 (.prim .mod (.cons (.var 0) (.cons (.lit (.int 11)) .nil))))
    (.cons (.set 4 (.prim .ix (.cons (.lit (.str ⟨#[97, 98, 99, 100]⟩)) (.cons (.prim .mod (.cons (.prim .fdiv (.cons (.var 0) (.cons (.lit (.int 16)) .nil))) (.cons (.lit (.int 4)) .nil))) .nil))))
    (.cons (.set 5 (.call 9 (.cons (.prim .fdiv (.cons (.call 8 (.cons (.var 0) (.cons (.lit (.int 30)) .nil))) (.cons (.lit (.int 4)) .nil))) (.cons (.lit (.int 2)) .nil))))
    (.cons (.ite (.and (.cons (.prim .eq (.cons (.var 3) (.cons (.lit (.int 10)) .nil))) (.cons (.prim .gt (.cons (.prim .len (.cons (.var 1) .nil)) (.cons (.lit (.int 0)) .nil))) .nil))) (.cons (.setT [6, 7] (.prim .ix (.cons (.var 1) (.cons (.prim .mod (.cons (.prim .fdiv (.cons (.var 0) (.cons (.lit (.int 64)) .nil))) (.cons (.prim .len (.cons (.var 1) .nil)) .nil))) .nil))))
    (.cons (.ret (.prim .tup (.cons (.lit (.str ⟨#[99, 97, 108, 108]⟩)) (.cons (.var 4) (.cons (.var 6) (.cons (.prim .tupOf (.cons cp_law_deed_0 .nil)) .nil))))))
    .nil)) .nil)
    (.cons (.ite (.and (.cons (.prim .eq (.cons (.var 3) (.cons (.lit (.int 2)) .nil))) (.cons (.prim .gt (.cons (.prim .mod (.cons (.prim .fdiv (.cons (.var 0) (.cons (.lit (.int 16)) .nil))) (.cons (.lit (.int 3)) .nil))) (.cons (.lit (.int 0)) .nil))) .nil))) (.cons (.ret (.prim .tup (.cons (.lit (.str ⟨#[116, 101, 108, 108]⟩)) (.cons (.var 5) .nil))))
    .nil) .nil)
    (.cons (.ite (.prim .eq (.cons (.var 3) (.cons (.lit (.int 3)) .nil))) (.cons (.ret (.prim .tup (.cons (.lit (.str ⟨#[116, 104, 114, 111, 119]⟩)) (.cons (.prim .ix (.cons (.prim .tup (.cons (.lit (.str ⟨#[114, 101, 100]⟩)) (.cons (.lit (.str ⟨#[103, 114, 101, 101, 110]⟩)) (.cons (.lit (.str ⟨#[98, 108, 117, 101]⟩)) .nil)))) (.cons (.prim .mod (.cons (.prim .fdiv (.cons (.var 0) (.cons (.lit (.int 16)) .nil))) (.cons (.lit (.int 3)) .nil))) .nil))) (.cons (.var 5) .nil)))))
    .nil) .nil)
    (.cons (.ite (.and (.cons (.prim .gt (.cons (.var 3) (.cons (.lit (.int 5)) .nil))) (.cons (.prim .gt (.cons (.var 2) (.cons (.lit (.int 0)) .nil))) .nil))) (.cons (.ite (.prim .eq (.cons (.var 3) (.cons (.lit (.int 6)) .nil))) (.cons (.set 8 cp_law_deed_1)
    (.cons (.ret (.prim .tup (.cons (.lit (.str ⟨#[105, 102]⟩)) (.cons (.var 5) (.cons (.prim .ix (.cons (.var 8) (.cons (.lit (.int 0)) .nil))) (.cons (.prim .ix (.cons (.var 8) (.cons (.lit (.int 1)) .nil))) .nil))))))
    .nil)) .nil)
    (.cons (.ite (.prim .eq (.cons (.var 3) (.cons (.lit (.int 7)) .nil))) (.cons (.ret (.prim .tup (.cons (.lit (.str ⟨#[116, 117, 114, 110, 115]⟩)) (.cons (.var 5) (.cons (.call 12 (.cons (.prim .fdiv (.cons (.call 8 (.cons (.var 0) (.cons (.lit (.int 42)) .nil))) (.cons (.lit (.int 4)) .nil))) (.cons (.var 1) (.cons (.var 2) .nil)))) .nil)))))
    .nil) .nil)
    (.cons (.ret (.call 10 (.cons (.prim .fdiv (.cons (.var 0) (.cons (.lit (.int 16)) .nil))) (.cons (.var 1) (.cons (.var 2) .nil)))))
    .nil))) .nil)
    (.cons (.ret (.prim .ix (.cons (.prim .lst (.cons (.prim .tup (.cons (.lit (.str ⟨#[110, 111, 116, 101]⟩)) (.cons (.var 5) .nil))) (.cons (.prim .tup (.cons (.lit (.str ⟨#[112, 117, 116]⟩)) (.cons (.var 4) (.cons (.var 5) .nil)))) .nil))) (.cons (.prim .mod (.cons (.prim .fdiv (.cons (.var 0) (.cons (.lit (.int 512)) .nil))) (.cons (.lit (.int 2)) .nil))) .nil))))
    .nil))))))))⟩
def cp_law_block_0 : E := .comp (.one 4) .range (.cons (.var 3) .nil) none (.call 11 (.cons (.prim .fdiv (.cons (.call 8 (.cons (.var 0) (.cons (.prim .add (.cons (.lit (.int 50)) (.cons (.var 4) .nil))) .nil))) (.cons (.lit (.int 4)) .nil))) (.cons (.var 1) (.cons (.prim .sub (.cons (.var 2) (.cons (.lit (.int 1)) .nil))) .nil))))
def f_law_block : Fn := ⟨3, 5, (.cons (.ite (.prim .eq (.cons (.var 2) (.cons (.lit (.int 0)) .nil))) (.cons (.ret (.prim .tup .nil))
    .nil) .nil)
    (.cons (.set 3 (.prim .ix (.cons (.prim .tup (.cons (.lit (.int 1)) (.cons (.lit (.int 2)) (.cons (.lit (.int 3)) (.cons (.lit (.int 2)) (.cons (.lit (.int 0)) (.cons (.lit (.int 4)) .nil))))))) (.cons (.prim .mod (.cons (.var 0) (.cons (.lit (.int 6)) .nil))) .nil))))
    (.cons (.ret (.prim .tupOf (.cons cp_law_block_0 .nil)))
    .nil)))⟩
def lb_law_book_0 : Ss := (.cons (.set 4 (.prim .fdiv (.cons (.call 8 (.cons (.var 0) (.cons (.var 3) .nil))) (.cons (.lit (.int 4)) .nil))))
    (.cons (.set 5 (.prim .ix (.cons (.prim .lst (.cons (.prim .tup .nil) (.cons (.prim .tup (.cons (.lit (.str ⟨#[97]⟩)) .nil)) (.cons (.prim .tup (.cons (.lit (.str ⟨#[98]⟩)) (.cons (.lit (.str ⟨#[97]⟩)) .nil))) (.cons (.prim .tup (.cons (.lit (.str ⟨#[97]⟩)) (.cons (.lit (.str ⟨#[98]⟩)) (.cons (.lit (.str ⟨#[99]⟩)) .nil)))) .nil))))) (.cons (.prim .mod (.cons (.var 4) (.cons (.lit (.int 4)) .nil))) .nil))))
    (.cons (.set 6 (.prim .ix (.cons (.prim .lst (.cons (.lit (.str ⟨#[111, 110, 101]⟩)) (.cons (.lit (.str ⟨#[102]⟩)) (.cons (.lit (.str ⟨#[116, 119, 111]⟩)) (.cons (.lit (.str ⟨#[103, 111]⟩)) .nil))))) (.cons (.var 3) .nil))))
    (.cons (.set 7 (.call 12 (.cons (.prim .fdiv (.cons (.var 4) (.cons (.lit (.int 4)) .nil))) (.cons (.var 1) (.cons (.prim .add (.cons (.lit (.int 2)) (.cons (.prim .mod (.cons (.prim .fdiv (.cons (.var 4) (.cons (.lit (.int 32)) .nil))) (.cons (.lit (.int 3)) .nil))) .nil))) .nil)))))
    (.cons (.set 2 (.prim .add (.cons (.var 2) (.cons (.prim .tup (.cons (.prim .tup (.cons (.var 6) (.cons (.var 5) (.cons (.var 7) .nil)))) .nil)) .nil))))
    (.cons (.expr (.meth .append (.var 1) (.cons (.prim .tup (.cons (.var 6) (.cons (.prim .len (.cons (.var 5) .nil)) .nil))) .nil)))
    .nil))))))
def lp_law_book_0 : S := .for (.one 3) .range (.cons (.prim .ix (.cons (.prim .tup (.cons (.lit (.int 2)) (.cons (.lit (.int 1)) (.cons (.lit (.int 3)) (.cons (.lit (.int 4)) (.cons (.lit (.int 2)) (.cons (.lit (.int 3)) .nil))))))) (.cons (.prim .mod (.cons (.var 0) (.cons (.lit (.int 6)) .nil))) .nil))) .nil) lb_law_book_0
def f_law_book : Fn := ⟨1, 8, (.cons (.set 1 (.prim .boxL .nil))
    (.cons (.set 2 (.prim .tup .nil))
    (.cons lp_law_book_0
    (.cons (.ret (.var 2))
    .nil))))⟩
def f_law_sum_text : Fn := ⟨1, 1, (.cons (.ite (.not (.prim (.isinst .tuple) (.cons (.var 0) .nil))) (.cons (.ret (.prim .strOf (.cons (.var 0) .nil)))
    .nil) .nil)
    (.cons (.ret (.prim .add (.cons (.prim .add (.cons (.prim .add (.cons (.prim .add (.cons (.prim .ix (.cons (.var 0) (.cons (.lit (.int 0)) .nil))) (.cons (.lit (.str ⟨#[32]⟩)) .nil))) (.cons (.call 14 (.cons (.prim .ix (.cons (.var 0) (.cons (.lit (.int 1)) .nil))) .nil)) .nil))) (.cons (.lit (.str ⟨#[32]⟩)) .nil))) (.cons (.call 14 (.cons (.prim .ix (.cons (.var 0) (.cons (.lit (.int 2)) .nil))) .nil)) .nil))))
    .nil))⟩
def lb_law_block_text_0 : Ss := (.cons (.set 1 (.prim .add (.cons (.prim .add (.cons (.prim .add (.cons (.var 1) (.cons (.lit (.str ⟨#[32]⟩)) .nil))) (.cons (.call 16 (.cons (.var 2) .nil)) .nil))) (.cons (.lit (.str ⟨#[32, 59]⟩)) .nil))))
    .nil)
def lp_law_block_text_0 : S := .for (.one 2) .seq (.cons (.var 0) .nil) lb_law_block_text_0
def f_law_block_text : Fn := ⟨1, 3, (.cons (.set 1 (.lit (.str ⟨#[123]⟩)))
    (.cons lp_law_block_text_0
    (.cons (.ret (.prim .add (.cons (.var 1) (.cons (.lit (.str ⟨#[32, 125]⟩)) .nil))))
    .nil)))⟩
def cp_law_deed_text_0 : E := .comp (.one 6) .seq (.cons (.prim .slcL (.cons (.var 0) (.cons (.lit (.int 2)) .nil))) .nil) none (.call 15 (.cons (.var 6) .nil))
def lb_law_deed_text_0 : Ss := (.cons (.set 2 (.prim .add (.cons (.prim .add (.cons (.prim .add (.cons (.prim .add (.cons (.prim .add (.cons (.prim .add (.cons (.var 2) (.cons (.lit (.str ⟨#[32, 99, 97, 116, 99, 104, 32]⟩)) .nil))) (.cons (.var 3) .nil))) (.cons (.lit (.str ⟨#[32]⟩)) .nil))) (.cons (.var 4) .nil))) (.cons (.lit (.str ⟨#[32]⟩)) .nil))) (.cons (.call 15 (.cons (.var 5) .nil)) .nil))))
    .nil)
def lp_law_deed_text_0 : S := .for (.many [3, 4, 5]) .seq (.cons (.prim .ix (.cons (.var 0) (.cons (.lit (.int 2)) .nil))) .nil) lb_law_deed_text_0
def cp_law_deed_text_1 : E := .comp (.one 6) .seq (.cons (.prim .ix (.cons (.var 0) (.cons (.lit (.int 3)) .nil))) .nil) none (.call 14 (.cons (.var 6) .nil))
def f_law_deed_text : Fn := ⟨1, 7, (.cons (.set 1 (.prim .ix (.cons (.var 0) (.cons (.lit (.int 0)) .nil))))
    (.cons (.ite (.prim .isin (.cons (.var 1) (.cons (.prim .tup (.cons (.lit (.str ⟨#[105, 102]⟩)) (.cons (.lit (.str ⟨#[116, 117, 114, 110, 115]⟩)) .nil))) .nil))) (.cons (.ret (.meth .join (.lit (.str ⟨#[32]⟩)) (.cons (.prim .add (.cons (.prim .lst (.cons (.var 1) (.cons (.call 14 (.cons (.prim .ix (.cons (.var 0) (.cons (.lit (.int 1)) .nil))) .nil)) .nil))) (.cons cp_law_deed_text_0 .nil))) .nil)))
    .nil) .nil)
    (.cons (.ite (.prim .eq (.cons (.var 1) (.cons (.lit (.str ⟨#[116, 114, 121]⟩)) .nil))) (.cons (.set 2 (.prim .add (.cons (.lit (.str ⟨#[116, 114, 121, 32]⟩)) (.cons (.call 15 (.cons (.prim .ix (.cons (.var 0) (.cons (.lit (.int 1)) .nil))) .nil)) .nil))))
    (.cons lp_law_deed_text_0
    (.cons (.ret (.prim .add (.cons (.prim .add (.cons (.var 2) (.cons (.lit (.str ⟨#[32, 108, 97, 115, 116, 32]⟩)) .nil))) (.cons (.call 15 (.cons (.prim .ix (.cons (.var 0) (.cons (.lit (.int 3)) .nil))) .nil)) .nil))))
    .nil))) .nil)
    (.cons (.ite (.prim .eq (.cons (.var 1) (.cons (.lit (.str ⟨#[99, 97, 108, 108]⟩)) .nil))) (.cons (.ret (.meth .join (.lit (.str ⟨#[32]⟩)) (.cons (.prim .add (.cons (.prim .slcH (.cons (.var 0) (.cons (.lit (.int 3)) .nil))) (.cons (.prim .tupOf (.cons cp_law_deed_text_1 .nil)) .nil))) .nil)))
    .nil) .nil)
    (.cons (.ret (.meth .join (.lit (.str ⟨#[32]⟩)) (.cons (.prim .add (.cons (.prim .slcH (.cons (.var 0) (.cons (.prim .sub (.cons (.prim .len (.cons (.var 0) .nil)) (.cons (.lit (.int 1)) .nil))) .nil))) (.cons (.prim .tup (.cons (.call 14 (.cons (.prim .ix (.cons (.var 0) (.cons (.prim .sub (.cons (.prim .len (.cons (.var 0) .nil)) (.cons (.lit (.int 1)) .nil))) .nil))) .nil)) .nil)) .nil))) .nil)))
    .nil)))))⟩
def lb_law_text_0 : Ss := (.cons (.expr (.meth .append (.var 1) (.cons (.meth .join (.lit (.str ⟨#[32]⟩)) (.cons (.prim .add (.cons (.prim .add (.cons (.prim .lst (.cons (.lit (.str ⟨#[109, 97, 107, 101, 114]⟩)) (.cons (.var 2) (.cons (.lit (.str ⟨#[40]⟩)) .nil)))) (.cons (.prim .lstOf (.cons (.var 3) .nil)) .nil))) (.cons (.prim .lst (.cons (.lit (.str ⟨#[41]⟩)) (.cons (.call 15 (.cons (.var 4) .nil)) .nil))) .nil))) .nil)) .nil)))
    .nil)
def lp_law_text_0 : S := .for (.many [2, 3, 4]) .seq (.cons (.var 0) .nil) lb_law_text_0
def f_law_text : Fn := ⟨1, 5, (.cons (.set 1 (.prim .boxL .nil))
    (.cons lp_law_text_0
    (.cons (.ret (.meth .join (.lit (.str ⟨#[32]⟩)) (.cons (.var 1) .nil)))
    .nil)))⟩
def f_law : Fn := ⟨1, 2, (.cons (.set 1 (.call 13 (.cons (.call 7 (.cons (.var 0) (.cons (.lit (.int 0)) .nil))) .nil)))
    (.cons (.ret (.prim .eq (.cons (.call 5 (.cons (.var 1) .nil)) (.cons (.call 17 (.cons (.var 1) .nil)) .nil))))
    .nil))⟩
def tab : Tab := ⟨[], [f_sum_words, f_try_words, f_deed_words, f_block_words, f_maker_words, f_written, f_law_cell_at, f_law_mixed, f_law_drawn, f_law_sum, f_law_try, f_law_deed, f_law_block, f_law_book, f_law_sum_text, f_law_block_text, f_law_deed_text, f_law_text, f_law]⟩
abbrev i_sum_words : Nat := 0
abbrev i_try_words : Nat := 1
abbrev i_deed_words : Nat := 2
abbrev i_block_words : Nat := 3
abbrev i_maker_words : Nat := 4
abbrev i_written : Nat := 5
abbrev i_law_cell_at : Nat := 6
abbrev i_law_mixed : Nat := 7
abbrev i_law_drawn : Nat := 8
abbrev i_law_sum : Nat := 9
abbrev i_law_try : Nat := 10
abbrev i_law_deed : Nat := 11
abbrev i_law_block : Nat := 12
abbrev i_law_book : Nat := 13
abbrev i_law_sum_text : Nat := 14
abbrev i_law_block_text : Nat := 15
abbrev i_law_deed_text : Nat := 16
abbrev i_law_text : Nat := 17
abbrev i_law : Nat := 18
end K03
namespace K03
open PySem Thr
theorem cell_ok (ns : List Int) (k : Int) (hk : 0 ≤ k) (st : Store) : ∃ c : Int, Calls tab 1 i_law_cell_at [.d (.list (ns.map .int)), .d (.int k)] st (.d (.int c), st) := by
  by_cases h : k < ns.length
  · obtain ⟨c, -, e⟩ := atIx_map PyData.int ns hk h
    exact ⟨c, Calls.mk0 (fn := f_law_cell_at) rfl rfl fun n hn => ⟨_, by simp [f_law_cell_at, h, e, startS, exSs, exS, evE, evEs, evAnd, evOr, primF, views, view, allD, asB, asD, primD, addD, int2, two, one, negD, lenD, tupD, lstD, intD, strD, inD, strsOf, ixD, noneB, tyIs, slcF, slc0, slc1, slc2, slc3, cut, HT.sIx, setMany, setManyV, bindT, itemsOf, recvOk, isLst, isStr, eqF_str, eqF_int, mulOk_l, mulOk_mod, size_line', atIx_0, atIx_1, atIx_2, atIx_3, atIx_n1, atIx_n2, atIx_n3, atIx_n4]; exact rfl⟩⟩
  · exact ⟨0, Calls.mk0 (fn := f_law_cell_at) rfl rfl fun n hn => ⟨_, by simp [f_law_cell_at, h, startS, exSs, exS, evE, evEs, evAnd, evOr, primF, views, view, allD, asB, asD, primD, addD, int2, two, one, negD, lenD, tupD, lstD, intD, strD, inD, strsOf, ixD, noneB, tyIs, slcF, slc0, slc1, slc2, slc3, cut, HT.sIx, setMany, setManyV, bindT, itemsOf, recvOk, isLst, isStr, eqF_str, eqF_int, mulOk_l, mulOk_mod, size_line', atIx_0, atIx_1, atIx_2, atIx_3, atIx_n1, atIx_n2, atIx_n3, atIx_n4]; exact rfl⟩⟩
theorem mixed_ok (ns : List Int) (k : Int) (hk : 0 ≤ k ∧ k < 1000) (st : Store) : ∃ m : Int, 0 ≤ m ∧ Calls tab 2 i_law_mixed [.d (.list (ns.map .int)), .d (.int k)] st (.d (.int m), st) := by
  obtain ⟨c, hc⟩ := cell_ok ns k hk.1 st
  have q : mulOk 7919 k = true := mulOk_l (by omega)
  refine ⟨_, ?_, Calls.mk0 (fn := f_law_mixed) rfl rfl fun n hn => ⟨_, by simp [f_law_mixed, hc n hn, q, startS, exSs, exS, evE, evEs, evAnd, evOr, primF, views, view, allD, asB, asD, primD, addD, int2, two, one, negD, lenD, tupD, lstD, intD, strD, inD, strsOf, ixD, noneB, tyIs, slcF, slc0, slc1, slc2, slc3, cut, HT.sIx, setMany, setManyV, bindT, itemsOf, recvOk, isLst, isStr, eqF_str, eqF_int, mulOk_l, mulOk_mod, size_line', atIx_0, atIx_1, atIx_2, atIx_3, atIx_n1, atIx_n2, atIx_n3, atIx_n4]; exact rfl⟩⟩
  omega
theorem drawn_ok (m k : Int) (hk : 0 ≤ k ∧ k < 1000) (st : Store) : ∃ r : Int, 0 ≤ r ∧ Calls tab 1 i_law_drawn [.d (.int m), .d (.int k)] st (.d (.int r), st) := by
  have q : mulOk 104729 k = true := mulOk_l (by omega)
  refine ⟨_, ?_, Calls.mk0 (fn := f_law_drawn) rfl rfl fun n hn => ⟨_, by simp [f_law_drawn, q, startS, exSs, exS, evE, evEs, evAnd, evOr, primF, views, view, allD, asB, asD, primD, addD, int2, two, one, negD, lenD, tupD, lstD, intD, strD, inD, strsOf, ixD, noneB, tyIs, slcF, slc0, slc1, slc2, slc3, cut, HT.sIx, setMany, setManyV, bindT, itemsOf, recvOk, isLst, isStr, eqF_str, eqF_int, mulOk_l, mulOk_mod, size_line', atIx_0, atIx_1, atIx_2, atIx_3, atIx_n1, atIx_n2, atIx_n3, atIx_n4]; exact rfl⟩⟩
  omega
theorem sum_ok : ∀ (deep : Nat) (m : Int) (st : Store), 0 ≤ m → ∃ s, WfS deep s ∧ Calls tab (deep + 2) i_law_sum [.d (.int m), .d (.int deep)] st (.d (encS s), st)
  | deep, m, st, hm => by
    by_cases h : deep = 0 ∨ m % 3 = 0
    · obtain ⟨c, hc, e0⟩ := atIx_map PyData.str abcd (i := m / 12 % 4) (by omega) (by show _ < (4 : Int); omega)
      obtain ⟨x, hx, e⟩ := atIx_mem [PyData.int (m / 3 % 1000), PyData.int (m / 3 % 4), PyData.str c] (i := m / 48 % 3) (by omega) (by show _ < (3 : Int); omega)
      have key : ∃ s, WfS deep s ∧ x = encS s := by
        simp only [List.mem_cons, List.not_mem_nil, or_false] at hx
        rcases hx with rfl | rfl | rfl
        · exact ⟨.num _, by cases deep <;> exact ⟨by omega, by omega⟩, rfl⟩
        · exact ⟨.num _, by cases deep <;> exact ⟨by omega, by omega⟩, rfl⟩
        · exact ⟨.nm c, by cases deep <;> exact hc, rfl⟩
      obtain ⟨s, hs, rfl⟩ := key
      refine ⟨s, hs, Calls.mk0 (fn := f_law_sum) rfl rfl fun n hn => ?_⟩
      simp only [abcd, List.map] at e0
      by_cases h0 : deep = 0
      · subst h0
        exact ⟨_, by simp [f_law_sum, e0, e, startS, exSs, exS, evE, evEs, evAnd, evOr, primF, views, view, allD, asB, asD, primD, addD, int2, two, one, negD, lenD, tupD, lstD, intD, strD, inD, strsOf, ixD, noneB, tyIs, slcF, slc0, slc1, slc2, slc3, cut, HT.sIx, setMany, setManyV, bindT, itemsOf, recvOk, isLst, isStr, eqF_str, eqF_int, mulOk_l, mulOk_mod, size_line', atIx_0, atIx_1, atIx_2, atIx_3, atIx_n1, atIx_n2, atIx_n3, atIx_n4]; exact rfl⟩
      · have h1 : m % 3 = 0 := h.resolve_left h0
        exact ⟨_, by simp [f_law_sum, e0, e, h0, h1, startS, exSs, exS, evE, evEs, evAnd, evOr, primF, views, view, allD, asB, asD, primD, addD, int2, two, one, negD, lenD, tupD, lstD, intD, strD, inD, strsOf, ixD, noneB, tyIs, slcF, slc0, slc1, slc2, slc3, cut, HT.sIx, setMany, setManyV, bindT, itemsOf, recvOk, isLst, isStr, eqF_str, eqF_int, mulOk_l, mulOk_mod, size_line', atIx_0, atIx_1, atIx_2, atIx_3, atIx_n1, atIx_n2, atIx_n3, atIx_n4]; exact rfl⟩
    · obtain ⟨d, rfl⟩ : ∃ d, deep = d + 1 := ⟨deep - 1, by omega⟩
      have h1 : ¬ m % 3 = 0 := fun e => h (.inr e)
      have h0 : ¬ ((d : Int) + 1 = 0) := by omega
      obtain ⟨w, hw, e0⟩ := atIx_map PyData.str (opsW ++ [⟨#[112, 108, 117, 115]⟩]) (i := m / 3 % 6) (by omega) (by show _ < (6 : Int); omega)
      have hw' : w ∈ opsW := by
        simp only [opsW, List.cons_append, List.nil_append, List.mem_cons, List.not_mem_nil, or_false] at hw ⊢
        rcases hw with h | h | h | h | h | h <;> simp [h]
      simp only [opsW, List.cons_append, List.nil_append, List.map] at e0
      obtain ⟨r1, p1, q1⟩ := drawn_ok m 1 (by decide) st
      obtain ⟨r2, p2, q2⟩ := drawn_ok m 2 (by decide) st
      obtain ⟨a, ha, ca⟩ := sum_ok d (r1 / 4) st (by omega)
      obtain ⟨b, hb, cb⟩ := sum_ok d (r2 / 4) st (by omega)
      refine ⟨.op w a b, ⟨hw', ha, hb⟩, Calls.mk0 (fn := f_law_sum) rfl rfl fun n hn => ?_⟩
      have e1 := q1 n (by omega)
      have e2 := q2 n (by omega)
      have e3 := ca n hn
      have e4 := cb n hn
      have hd : (d : Int) + 1 - 1 = d := by omega
      exact ⟨_, by simp [f_law_sum, e0, h0, h1, e1, e2, e3, e4, hd, encS, startS, exSs, exS, evE, evEs, evAnd, evOr, primF, views, view, allD, asB, asD, primD, addD, int2, two, one, negD, lenD, tupD, lstD, intD, strD, inD, strsOf, ixD, noneB, tyIs, slcF, slc0, slc1, slc2, slc3, cut, HT.sIx, setMany, setManyV, bindT, itemsOf, recvOk, isLst, isStr, eqF_str, eqF_int, mulOk_l, mulOk_mod, size_line', atIx_0, atIx_1, atIx_2, atIx_3, atIx_n1, atIx_n2, atIx_n3, atIx_n4]; exact rfl⟩
end K03
namespace K03
open PySem Thr
theorem get_top (st : Store) (c : Cell) : (st ++ [c])[st.length]? = some c := by simp
theorem set_top (st : Store) (c d : Cell) : (st ++ [c]).set st.length d = st ++ [d] := by simp
theorem get_low {st : Store} {k : Nat} {c : Cell} (h : st[k]? = some c) (d : Cell) : (st ++ [d])[k]? = some c := by
  rw [List.getElem?_append_left (List.getElem?_eq_some_iff.mp h).1]; exact h
def HB (d : Nat) : Prop := ∀ (m : Int) (st : Store) (kc : Nat) (kn : Known), 0 ≤ m → st[kc]? = some (.lst (encK kn)) → (∀ p ∈ kn, p.2 ≤ 3) →
  ∃ b, WfB kn d b ∧ Calls tab (3 * d + 5) i_law_block [.d (.int m), .ref kc, .d (.int d)] st (.d (.tuple (encDs b)), st)
def HD (d : Nat) : Prop := ∀ (m : Int) (st : Store) (kc : Nat) (kn : Known), 0 ≤ m → st[kc]? = some (.lst (encK kn)) → (∀ p ∈ kn, p.2 ≤ 3) →
  ∃ b, WfD kn d b ∧ Calls tab (3 * d + 7) i_law_deed [.d (.int m), .ref kc, .d (.int d)] st (.d (encD b), st)
def HT (d : Nat) : Prop := ∀ (m : Int) (st : Store) (kc : Nat) (kn : Known), 0 ≤ m → st[kc]? = some (.lst (encK kn)) → (∀ p ∈ kn, p.2 ≤ 3) →
  ∃ b, WfD kn d b ∧ Calls tab (3 * d + 6) i_law_try [.d (.int m), .ref kc, .d (.int d)] st (.d (encD b), st)
theorem items_range (n : Nat) (h : n ≤ 16777216) : itemsOf .range [.int n] = some ((List.range n).map fun (i : Nat) => .int i) := by
  have : 0 ≤ (n : Int) ∧ (n : Int) ≤ 16777216 := by omega
  simp [itemsOf, this]
theorem block0 : HB 0 := by
  intro m st kc kn hm hst hkn
  refine ⟨.nil, trivial, Calls.mk0 (fn := f_law_block) rfl rfl fun n hn => ⟨_, by simp [f_law_block, encDs, startS, exSs, exS, evE, evEs, evAnd, evOr, primF, views, view, allD, asB, asD, primD, addD, int2, two, one, negD, lenD, tupD, lstD, intD, strD, inD, strsOf, ixD, noneB, tyIs, slcF, slc0, slc1, slc2, slc3, cut, HT.sIx, setMany, setManyV, bindT, itemsOf, recvOk, isLst, isStr, eqF_str, eqF_int, mulOk_l, mulOk_mod, size_line', atIx_0, atIx_1, atIx_2, atIx_3, atIx_n1, atIx_n2, atIx_n3, atIx_n4]; exact rfl⟩⟩
theorem block1 {d : Nat} (hd : HD d) : HB (d + 1) := by
  intro m st kc kn hm hst hkn
  obtain ⟨c, hc, e0⟩ := atIx_map (fun n : Nat => PyData.int n) [1, 2, 3, 2, 0, 4] (i := m % 6) (by omega) (by show _ < (6 : Int); omega)
  have hc4 : c ≤ 4 := by simp at hc; omega
  simp [List.map] at e0
  obtain ⟨ys, hys⟩ := F2.choose (P := fun (i : Nat) y => WfD kn d y ∧ ∃ r : Int, Calls tab 1 i_law_drawn [.d (.int m), .d (.int (50 + i))] st (.d (.int r), st) ∧ Calls tab (3 * d + 7) i_law_deed [.d (.int (r / 4)), .ref kc, .d (.int d)] st (.d (encD y), st)) (List.range c) (fun i hi => by
    have hi := List.mem_range.mp hi
    obtain ⟨r, hr, c1⟩ := drawn_ok m (50 + i) (by omega) st
    obtain ⟨y, hy, c2⟩ := hd (r / 4) st kc kn (by omega) hst hkn
    exact ⟨y, hy, r, c1, c2⟩)
  have hw : ∀ y ∈ ys, WfD kn d y := F2.all (hys.imp fun _ _ h => h.1)
  have hl : ys.length ≤ 4 := by rw [hys.length, List.length_range]; exact hc4
  refine ⟨Ds.of ys, wfB_of ys hl hw, Calls.mk0 (fn := f_law_block) (k := 3 * d + 7) rfl rfl fun n hn => ?_⟩
  have h0 : ¬ ((d : Int) + 1 = 0) := by omega
  have hd1 : (d : Int) + 1 - 1 = d := by omega
  have key : evE tab (callF tab n) cp_law_block_0 [some (.d (.int m)), some (.ref kc), some (.d (.int ((d : Int) + 1))), some (.d (.int c)), none] st = some (.d (.list (ys.map encD)), st) := by
    refine ev_compF2 (fun (i : Nat) => .int i) encD hys (vs := [.d (.int c)]) (ds := [.int c]) (by simp [startS, exSs, exS, evE, evEs, evAnd, evOr, primF, views, view, allD, asB, asD, primD, addD, int2, two, one, negD, lenD, tupD, lstD, intD, strD, inD, strsOf, ixD, noneB, tyIs, slcF, slc0, slc1, slc2, slc3, cut, HT.sIx, setMany, setManyV, bindT, itemsOf, recvOk, isLst, isStr, eqF_str, eqF_int, mulOk_l, mulOk_mod, size_line', atIx_0, atIx_1, atIx_2, atIx_3, atIx_n1, atIx_n2, atIx_n3, atIx_n4]) rfl (items_range c (by omega)) fun i y ⟨_, r, c1, c2⟩ => ?_
    have e1 := c1 n (by omega)
    have e2 := c2 n (by omega)
    exact ⟨_, rfl, by simp [e1, e2, hd1, startS, exSs, exS, evE, evEs, evAnd, evOr, primF, views, view, allD, asB, asD, primD, addD, int2, two, one, negD, lenD, tupD, lstD, intD, strD, inD, strsOf, ixD, noneB, tyIs, slcF, slc0, slc1, slc2, slc3, cut, HT.sIx, setMany, setManyV, bindT, itemsOf, recvOk, isLst, isStr, eqF_str, eqF_int, mulOk_l, mulOk_mod, size_line', atIx_0, atIx_1, atIx_2, atIx_3, atIx_n1, atIx_n2, atIx_n3, atIx_n4]⟩
  exact ⟨_, by simp [f_law_block, e0, h0, key, enc_of, startS, exSs, exS, evE, evEs, evAnd, evOr, primF, views, view, allD, asB, asD, primD, addD, int2, two, one, negD, lenD, tupD, lstD, intD, strD, inD, strsOf, ixD, noneB, tyIs, slcF, slc0, slc1, slc2, slc3, cut, HT.sIx, setMany, setManyV, bindT, itemsOf, recvOk, isLst, isStr, eqF_str, eqF_int, mulOk_l, mulOk_mod, size_line', atIx_0, atIx_1, atIx_2, atIx_3, atIx_n1, atIx_n2, atIx_n3, atIx_n4]; exact rfl⟩
theorem deed_ok {d : Nat} (hb : HB d) (ht : HT d) : HD d := by
  intro m st kc kn hm hst hkn
  obtain ⟨ch, hch, e0⟩ := atIx_mem [97, 98, 99, 100] (i := m / 16 % 4) (by omega) (by show _ < (4 : Int); omega)
  have hnm : (⟨#[ch]⟩ : Str) ∈ abcd := by
    simp only [List.mem_cons, List.not_mem_nil, or_false] at hch
    rcases hch with rfl | rfl | rfl | rfl <;> simp
  obtain ⟨r0, p0, c0⟩ := drawn_ok m 30 (by decide) st
  obtain ⟨a, ha, ca⟩ := sum_ok 2 (r0 / 4) st (by omega)
  by_cases k1 : m % 11 = 10 ∧ 0 < kn.length
  · obtain ⟨hk1, hk2⟩ := k1
    obtain ⟨⟨mk, ar⟩, hp, e1⟩ := atIx_map (fun p : Str × Nat => PyData.tuple [.str p.1, .int p.2]) kn (i := m / 64 % kn.length) (Int.emod_nonneg _ (by omega)) (Int.emod_lt_of_pos _ (by omega))
    have har := hkn _ hp
    obtain ⟨ys, hys⟩ := F2.choose (P := fun (i : Nat) y => WfS 1 y ∧ ∃ r : Int, Calls tab 1 i_law_drawn [.d (.int m), .d (.int (31 + i))] st (.d (.int r), st) ∧ Calls tab 3 i_law_sum [.d (.int (r / 4)), .d (.int 1)] st (.d (encS y), st)) (List.range ar) (fun i hi => by
      have hi := List.mem_range.mp hi
      obtain ⟨r, hr, c1⟩ := drawn_ok m (31 + i) (by simp at har; omega) st
      obtain ⟨y, hy, c2⟩ := sum_ok 1 (r / 4) st (by omega)
      exact ⟨y, hy, r, c1, c2⟩)
    have hw : ∀ y ∈ ys, WfS 1 y := F2.all (hys.imp fun _ _ h => h.1)
    have hl : ys.length = ar := by rw [hys.length, List.length_range]
    refine ⟨.call ⟨#[ch]⟩ mk ys, ⟨hnm, by rw [hl]; exact hp, hw⟩, Calls.mk0 (fn := f_law_deed) (k := 3 * d + 6) rfl rfl fun n hn => ?_⟩
    have g0 := c0 n (by omega)
    have g1 : callF tab n i_law_sum [.d (.int (r0 / 4)), .d (.int 2)] st = some (.d (encS a), st) := ca n (by omega)
    have hk3 : (0 : Int) < (encK kn).length := by simp [encK]; omega
    have key : evE tab (callF tab n) cp_law_deed_0 [some (.d (.int m)), some (.ref kc), some (.d (.int d)), some (.d (.int 10)), some (.d (.str ⟨#[ch]⟩)), some (.d (encS a)), some (.d (.str mk)), some (.d (.int ar)), none, none] st = some (.d (.list (ys.map encS)), st) := by
      refine ev_compF2 (fun (i : Nat) => .int i) encS hys (vs := [.d (.int ar)]) (ds := [.int ar]) (by simp [startS, exSs, exS, evE, evEs, evAnd, evOr, primF, views, view, allD, asB, asD, primD, addD, int2, two, one, negD, lenD, tupD, lstD, intD, strD, inD, strsOf, ixD, noneB, tyIs, slcF, slc0, slc1, slc2, slc3, cut, HT.sIx, setMany, setManyV, bindT, itemsOf, recvOk, isLst, isStr, eqF_str, eqF_int, mulOk_l, mulOk_mod, size_line', atIx_0, atIx_1, atIx_2, atIx_3, atIx_n1, atIx_n2, atIx_n3, atIx_n4]) rfl (items_range ar (by simp at har; omega)) fun i y ⟨_, r, c1, c2⟩ => ?_
      have e1 := c1 n (by omega)
      have e2 := c2 n (by omega)
      exact ⟨_, rfl, by simp [e1, e2, startS, exSs, exS, evE, evEs, evAnd, evOr, primF, views, view, allD, asB, asD, primD, addD, int2, two, one, negD, lenD, tupD, lstD, intD, strD, inD, strsOf, ixD, noneB, tyIs, slcF, slc0, slc1, slc2, slc3, cut, HT.sIx, setMany, setManyV, bindT, itemsOf, recvOk, isLst, isStr, eqF_str, eqF_int, mulOk_l, mulOk_mod, size_line', atIx_0, atIx_1, atIx_2, atIx_3, atIx_n1, atIx_n2, atIx_n3, atIx_n4]⟩
    have hl2 : ((encK kn).length : Int) = kn.length := by simp [encK]
    have e1' : atIx (encK kn) (m / 64 % (kn.length : Int)) = some (.tuple [.str mk, .int ar]) := e1
    exact ⟨_, by simp [f_law_deed, e0, g0, g1, hk1, hst, hk3, hk2, hl2, e1', key, encD, startS, exSs, exS, evE, evEs, evAnd, evOr, primF, views, view, allD, asB, asD, primD, addD, int2, two, one, negD, lenD, tupD, lstD, intD, strD, inD, strsOf, ixD, noneB, tyIs, slcF, slc0, slc1, slc2, slc3, cut, HT.sIx, setMany, setManyV, bindT, itemsOf, recvOk, isLst, isStr, eqF_str, eqF_int, mulOk_l, mulOk_mod, size_line', atIx_0, atIx_1, atIx_2, atIx_3, atIx_n1, atIx_n2, atIx_n3, atIx_n4]; exact rfl⟩
  · have fin : ∀ b, WfD kn d b → (∀ n, 3 * d + 6 ≤ n → callF tab n i_law_drawn [.d (.int m), .d (.int 30)] st = some (.d (.int r0), st) → callF tab n i_law_sum [.d (.int (r0 / 4)), .d (.int 2)] st = some (.d (encS a), st) →
        ∃ ρ, exSs tab (callF tab n) f_law_deed.body (startS f_law_deed.ns [.d (.int m), .ref kc, .d (.int d)]) st = some (.ret (.d (encD b)), ρ, st)) →
        ∃ b, WfD kn d b ∧ Calls tab (3 * d + 7) i_law_deed [.d (.int m), .ref kc, .d (.int d)] st (.d (encD b), st) := fun b hb h =>
      ⟨b, hb, Calls.mk0 (fn := f_law_deed) (k := 3 * d + 6) rfl rfl fun n hn => h n hn (c0 n (by omega)) (ca n (by omega))⟩
    obtain ⟨np, hnp, e1⟩ : ∃ b, WfD kn d b ∧ atIx [PyData.tuple [.str wNote, encS a], PyData.tuple [.str wPut, .str ⟨#[ch]⟩, encS a]] (m / 512 % 2) = some (encD b) := by
      obtain ⟨x, hx, e⟩ := atIx_mem [PyData.tuple [.str wNote, encS a], PyData.tuple [.str wPut, .str ⟨#[ch]⟩, encS a]] (i := m / 512 % 2) (by omega) (by show _ < (2 : Int); omega)
      simp only [List.mem_cons, List.not_mem_nil, or_false] at hx
      rcases hx with rfl | rfl
      · exact ⟨.note a, ha, e⟩
      · exact ⟨.put _ a, ⟨hnm, ha⟩, e⟩
    have hl2 : ((encK kn).length : Int) = kn.length := by simp [encK]
    simp only [wNote, wPut] at e1
    have hkd : m % 11 = 0 ∨ m % 11 = 1 ∨ m % 11 = 2 ∨ m % 11 = 3 ∨ m % 11 = 4 ∨ m % 11 = 5 ∨ m % 11 = 6 ∨ m % 11 = 7 ∨ m % 11 = 8 ∨ m % 11 = 9 ∨ m % 11 = 10 := by omega
    have rest : ¬ (5 < m % 11 ∧ 0 < d) → ¬ (m % 11 = 2 ∧ 0 < m / 16 % 3) → ¬ (m % 11 = 3) → ∃ b, WfD kn d b ∧ Calls tab (3 * d + 7) i_law_deed [.d (.int m), .ref kc, .d (.int d)] st (.d (encD b), st) := by
      intro n1 n2 n3
      refine fin np hnp fun n hn g0 g1 => ?_
      rcases hkd with hk | hk | hk | hk | hk | hk | hk | hk | hk | hk | hk
      case inr.inr.inl =>
        have n2' : ¬ 0 < m / 16 % 3 := fun h => n2 ⟨hk, h⟩
        exact ⟨_, by simp [f_law_deed, e0, g0, g1, hk, hst, n2', e1, startS, exSs, exS, evE, evEs, evAnd, evOr, primF, views, view, allD, asB, asD, primD, addD, int2, two, one, negD, lenD, tupD, lstD, intD, strD, inD, strsOf, ixD, noneB, tyIs, slcF, slc0, slc1, slc2, slc3, cut, HT.sIx, setMany, setManyV, bindT, itemsOf, recvOk, isLst, isStr, eqF_str, eqF_int, mulOk_l, mulOk_mod, size_line', atIx_0, atIx_1, atIx_2, atIx_3, atIx_n1, atIx_n2, atIx_n3, atIx_n4]; exact rfl⟩
      case inr.inr.inr.inl => exact absurd hk n3
      case inr.inr.inr.inr.inr.inr.inr.inr.inr.inr =>
        have hd0 : d = 0 := by omega
        have hk0 : ¬ (0 < kn.length) := by omega
        subst hd0
        exact ⟨_, by simp [f_law_deed, e0, g0, g1, hk, hst, hl2, hk0, e1, startS, exSs, exS, evE, evEs, evAnd, evOr, primF, views, view, allD, asB, asD, primD, addD, int2, two, one, negD, lenD, tupD, lstD, intD, strD, inD, strsOf, ixD, noneB, tyIs, slcF, slc0, slc1, slc2, slc3, cut, HT.sIx, setMany, setManyV, bindT, itemsOf, recvOk, isLst, isStr, eqF_str, eqF_int, mulOk_l, mulOk_mod, size_line', atIx_0, atIx_1, atIx_2, atIx_3, atIx_n1, atIx_n2, atIx_n3, atIx_n4]; exact rfl⟩
      case inl => exact ⟨_, by simp [f_law_deed, e0, g0, g1, hk, hst, e1, startS, exSs, exS, evE, evEs, evAnd, evOr, primF, views, view, allD, asB, asD, primD, addD, int2, two, one, negD, lenD, tupD, lstD, intD, strD, inD, strsOf, ixD, noneB, tyIs, slcF, slc0, slc1, slc2, slc3, cut, HT.sIx, setMany, setManyV, bindT, itemsOf, recvOk, isLst, isStr, eqF_str, eqF_int, mulOk_l, mulOk_mod, size_line', atIx_0, atIx_1, atIx_2, atIx_3, atIx_n1, atIx_n2, atIx_n3, atIx_n4]; exact rfl⟩
      case inr.inl => exact ⟨_, by simp [f_law_deed, e0, g0, g1, hk, hst, e1, startS, exSs, exS, evE, evEs, evAnd, evOr, primF, views, view, allD, asB, asD, primD, addD, int2, two, one, negD, lenD, tupD, lstD, intD, strD, inD, strsOf, ixD, noneB, tyIs, slcF, slc0, slc1, slc2, slc3, cut, HT.sIx, setMany, setManyV, bindT, itemsOf, recvOk, isLst, isStr, eqF_str, eqF_int, mulOk_l, mulOk_mod, size_line', atIx_0, atIx_1, atIx_2, atIx_3, atIx_n1, atIx_n2, atIx_n3, atIx_n4]; exact rfl⟩
      case inr.inr.inr.inr.inl => exact ⟨_, by simp [f_law_deed, e0, g0, g1, hk, hst, e1, startS, exSs, exS, evE, evEs, evAnd, evOr, primF, views, view, allD, asB, asD, primD, addD, int2, two, one, negD, lenD, tupD, lstD, intD, strD, inD, strsOf, ixD, noneB, tyIs, slcF, slc0, slc1, slc2, slc3, cut, HT.sIx, setMany, setManyV, bindT, itemsOf, recvOk, isLst, isStr, eqF_str, eqF_int, mulOk_l, mulOk_mod, size_line', atIx_0, atIx_1, atIx_2, atIx_3, atIx_n1, atIx_n2, atIx_n3, atIx_n4]; exact rfl⟩
      case inr.inr.inr.inr.inr.inl => exact ⟨_, by simp [f_law_deed, e0, g0, g1, hk, hst, e1, startS, exSs, exS, evE, evEs, evAnd, evOr, primF, views, view, allD, asB, asD, primD, addD, int2, two, one, negD, lenD, tupD, lstD, intD, strD, inD, strsOf, ixD, noneB, tyIs, slcF, slc0, slc1, slc2, slc3, cut, HT.sIx, setMany, setManyV, bindT, itemsOf, recvOk, isLst, isStr, eqF_str, eqF_int, mulOk_l, mulOk_mod, size_line', atIx_0, atIx_1, atIx_2, atIx_3, atIx_n1, atIx_n2, atIx_n3, atIx_n4]; exact rfl⟩
      all_goals
        have hd0 : d = 0 := by omega
        subst hd0
        exact ⟨_, by simp [f_law_deed, e0, g0, g1, hk, hst, e1, startS, exSs, exS, evE, evEs, evAnd, evOr, primF, views, view, allD, asB, asD, primD, addD, int2, two, one, negD, lenD, tupD, lstD, intD, strD, inD, strsOf, ixD, noneB, tyIs, slcF, slc0, slc1, slc2, slc3, cut, HT.sIx, setMany, setManyV, bindT, itemsOf, recvOk, isLst, isStr, eqF_str, eqF_int, mulOk_l, mulOk_mod, size_line', atIx_0, atIx_1, atIx_2, atIx_3, atIx_n1, atIx_n2, atIx_n3, atIx_n4]; exact rfl⟩
    by_cases hd : ¬ 0 < d
    · by_cases k2 : m % 11 = 2 ∧ 0 < m / 16 % 3
      · exact fin (.tell a) ha fun n hn g0 g1 => ⟨_, by simp [f_law_deed, e0, g0, g1, k2.1, k2.2, hst, encD, startS, exSs, exS, evE, evEs, evAnd, evOr, primF, views, view, allD, asB, asD, primD, addD, int2, two, one, negD, lenD, tupD, lstD, intD, strD, inD, strsOf, ixD, noneB, tyIs, slcF, slc0, slc1, slc2, slc3, cut, HT.sIx, setMany, setManyV, bindT, itemsOf, recvOk, isLst, isStr, eqF_str, eqF_int, mulOk_l, mulOk_mod, size_line', atIx_0, atIx_1, atIx_2, atIx_3, atIx_n1, atIx_n2, atIx_n3, atIx_n4]; exact rfl⟩
      · by_cases k3 : m % 11 = 3
        · obtain ⟨s, hs, e2⟩ := atIx_map PyData.str sortsW (i := m / 16 % 3) (by omega) (by show _ < (3 : Int); omega)
          simp only [sortsW, List.map] at e2
          exact fin (.throw s a) ⟨hs, ha⟩ fun n hn g0 g1 => ⟨_, by simp [f_law_deed, e0, g0, g1, k3, hst, e2, encD, startS, exSs, exS, evE, evEs, evAnd, evOr, primF, views, view, allD, asB, asD, primD, addD, int2, two, one, negD, lenD, tupD, lstD, intD, strD, inD, strsOf, ixD, noneB, tyIs, slcF, slc0, slc1, slc2, slc3, cut, HT.sIx, setMany, setManyV, bindT, itemsOf, recvOk, isLst, isStr, eqF_str, eqF_int, mulOk_l, mulOk_mod, size_line', atIx_0, atIx_1, atIx_2, atIx_3, atIx_n1, atIx_n2, atIx_n3, atIx_n4]; exact rfl⟩
        · exact rest (fun h => hd h.2) k2 k3
    have hd : 0 < d := by omega
    by_cases k2 : m % 11 = 2 ∧ 0 < m / 16 % 3
    · exact fin (.tell a) ha fun n hn g0 g1 => ⟨_, by simp [f_law_deed, e0, g0, g1, k2.1, k2.2, hst, encD, startS, exSs, exS, evE, evEs, evAnd, evOr, primF, views, view, allD, asB, asD, primD, addD, int2, two, one, negD, lenD, tupD, lstD, intD, strD, inD, strsOf, ixD, noneB, tyIs, slcF, slc0, slc1, slc2, slc3, cut, HT.sIx, setMany, setManyV, bindT, itemsOf, recvOk, isLst, isStr, eqF_str, eqF_int, mulOk_l, mulOk_mod, size_line', atIx_0, atIx_1, atIx_2, atIx_3, atIx_n1, atIx_n2, atIx_n3, atIx_n4]; exact rfl⟩
    by_cases k3 : m % 11 = 3
    · obtain ⟨s, hs, e2⟩ := atIx_map PyData.str sortsW (i := m / 16 % 3) (by omega) (by show _ < (3 : Int); omega)
      simp only [sortsW, List.map] at e2
      exact fin (.throw s a) ⟨hs, ha⟩ fun n hn g0 g1 => ⟨_, by simp [f_law_deed, e0, g0, g1, k3, hst, e2, encD, startS, exSs, exS, evE, evEs, evAnd, evOr, primF, views, view, allD, asB, asD, primD, addD, int2, two, one, negD, lenD, tupD, lstD, intD, strD, inD, strsOf, ixD, noneB, tyIs, slcF, slc0, slc1, slc2, slc3, cut, HT.sIx, setMany, setManyV, bindT, itemsOf, recvOk, isLst, isStr, eqF_str, eqF_int, mulOk_l, mulOk_mod, size_line', atIx_0, atIx_1, atIx_2, atIx_3, atIx_n1, atIx_n2, atIx_n3, atIx_n4]; exact rfl⟩
    by_cases k5 : ¬ 5 < m % 11
    · exact rest (fun h => k5 h.1) k2 k3
    by_cases k6 : m % 11 = 6
    · obtain ⟨ys, hys⟩ := F2.choose (P := fun (i : Nat) y => WfB kn d y ∧ ∃ r : Int, Calls tab 1 i_law_drawn [.d (.int m), .d (.int (40 + i))] st (.d (.int r), st) ∧ Calls tab (3 * d + 5) i_law_block [.d (.int (r / 4)), .ref kc, .d (.int d)] st (.d (.tuple (encDs y)), st)) (List.range 2) (fun i hi => by
        have hi := List.mem_range.mp hi
        obtain ⟨r, hr, c1⟩ := drawn_ok m (40 + i) (by omega) st
        obtain ⟨y, hy, c2⟩ := hb (r / 4) st kc kn (by omega) hst hkn
        exact ⟨y, hy, r, c1, c2⟩)
      have hw : ∀ y ∈ ys, WfB kn d y := F2.all (hys.imp fun _ _ h => h.1)
      have hl : ys.length = 2 := by rw [hys.length, List.length_range]
      obtain ⟨b1, b2, rfl⟩ : ∃ b1 b2, ys = [b1, b2] := by
        match ys, hl with
        | [b1, b2], _ => exact ⟨b1, b2, rfl⟩
      refine fin (.ite a b1 b2) ⟨ha, hw b1 (by simp), hw b2 (by simp)⟩ fun n hn g0 g1 => ?_
      have key : evE tab (callF tab n) cp_law_deed_1 [some (.d (.int m)), some (.ref kc), some (.d (.int d)), some (.d (.int 6)), some (.d (.str ⟨#[ch]⟩)), some (.d (encS a)), none, none, none, none] st = some (.d (.list ([b1, b2].map fun b => .tuple (encDs b))), st) := by
        refine ev_compF2 (fun (i : Nat) => .int i) (fun b => .tuple (encDs b)) hys (vs := [.d (.int 2)]) (ds := [.int 2]) (by simp [startS, exSs, exS, evE, evEs, evAnd, evOr, primF, views, view, allD, asB, asD, primD, addD, int2, two, one, negD, lenD, tupD, lstD, intD, strD, inD, strsOf, ixD, noneB, tyIs, slcF, slc0, slc1, slc2, slc3, cut, HT.sIx, setMany, setManyV, bindT, itemsOf, recvOk, isLst, isStr, eqF_str, eqF_int, mulOk_l, mulOk_mod, size_line', atIx_0, atIx_1, atIx_2, atIx_3, atIx_n1, atIx_n2, atIx_n3, atIx_n4]) rfl (items_range 2 (by omega)) fun i y ⟨_, r, c1, c2⟩ => ?_
        have e1 := c1 n (by omega)
        have e2 := c2 n (by omega)
        exact ⟨_, rfl, by simp [e1, e2, startS, exSs, exS, evE, evEs, evAnd, evOr, primF, views, view, allD, asB, asD, primD, addD, int2, two, one, negD, lenD, tupD, lstD, intD, strD, inD, strsOf, ixD, noneB, tyIs, slcF, slc0, slc1, slc2, slc3, cut, HT.sIx, setMany, setManyV, bindT, itemsOf, recvOk, isLst, isStr, eqF_str, eqF_int, mulOk_l, mulOk_mod, size_line', atIx_0, atIx_1, atIx_2, atIx_3, atIx_n1, atIx_n2, atIx_n3, atIx_n4]⟩
      exact ⟨_, by simp [f_law_deed, e0, g0, g1, k6, hst, hd, key, encD, startS, exSs, exS, evE, evEs, evAnd, evOr, primF, views, view, allD, asB, asD, primD, addD, int2, two, one, negD, lenD, tupD, lstD, intD, strD, inD, strsOf, ixD, noneB, tyIs, slcF, slc0, slc1, slc2, slc3, cut, HT.sIx, setMany, setManyV, bindT, itemsOf, recvOk, isLst, isStr, eqF_str, eqF_int, mulOk_l, mulOk_mod, size_line', atIx_0, atIx_1, atIx_2, atIx_3, atIx_n1, atIx_n2, atIx_n3, atIx_n4]; exact rfl⟩
    by_cases k7 : m % 11 = 7
    · obtain ⟨r, hr, c1⟩ := drawn_ok m 42 (by decide) st
      obtain ⟨b, hw, c2⟩ := hb (r / 4) st kc kn (by omega) hst hkn
      refine fin (.turns a b) ⟨ha, hw⟩ fun n hn g0 g1 => ?_
      have e2 := c1 n (by omega)
      have e3 := c2 n (by omega)
      exact ⟨_, by simp [f_law_deed, e0, g0, g1, k7, hst, hd, e2, e3, encD, startS, exSs, exS, evE, evEs, evAnd, evOr, primF, views, view, allD, asB, asD, primD, addD, int2, two, one, negD, lenD, tupD, lstD, intD, strD, inD, strsOf, ixD, noneB, tyIs, slcF, slc0, slc1, slc2, slc3, cut, HT.sIx, setMany, setManyV, bindT, itemsOf, recvOk, isLst, isStr, eqF_str, eqF_int, mulOk_l, mulOk_mod, size_line', atIx_0, atIx_1, atIx_2, atIx_3, atIx_n1, atIx_n2, atIx_n3, atIx_n4]; exact rfl⟩
    · obtain ⟨b, hw, c2⟩ := ht (m / 16) st kc kn (by omega) hst hkn
      refine fin b hw fun n hn g0 g1 => ?_
      have e3 := c2 n (by omega)
      rcases hkd with hk | hk | hk | hk | hk | hk | hk | hk | hk | hk | hk
      case inr.inr.inr.inr.inr.inr.inr.inr.inr.inr =>
        have hk0 : ¬ (0 < kn.length) := by omega
        exact ⟨_, by simp [f_law_deed, e0, g0, g1, hk, hst, hl2, hk0, hd, e3, startS, exSs, exS, evE, evEs, evAnd, evOr, primF, views, view, allD, asB, asD, primD, addD, int2, two, one, negD, lenD, tupD, lstD, intD, strD, inD, strsOf, ixD, noneB, tyIs, slcF, slc0, slc1, slc2, slc3, cut, HT.sIx, setMany, setManyV, bindT, itemsOf, recvOk, isLst, isStr, eqF_str, eqF_int, mulOk_l, mulOk_mod, size_line', atIx_0, atIx_1, atIx_2, atIx_3, atIx_n1, atIx_n2, atIx_n3, atIx_n4]; exact rfl⟩
      case inr.inr.inr.inr.inr.inr.inr.inr.inl => exact ⟨_, by simp [f_law_deed, e0, g0, g1, hk, hst, hd, e3, startS, exSs, exS, evE, evEs, evAnd, evOr, primF, views, view, allD, asB, asD, primD, addD, int2, two, one, negD, lenD, tupD, lstD, intD, strD, inD, strsOf, ixD, noneB, tyIs, slcF, slc0, slc1, slc2, slc3, cut, HT.sIx, setMany, setManyV, bindT, itemsOf, recvOk, isLst, isStr, eqF_str, eqF_int, mulOk_l, mulOk_mod, size_line', atIx_0, atIx_1, atIx_2, atIx_3, atIx_n1, atIx_n2, atIx_n3, atIx_n4]; exact rfl⟩
      case inr.inr.inr.inr.inr.inr.inr.inr.inr.inl => exact ⟨_, by simp [f_law_deed, e0, g0, g1, hk, hst, hd, e3, startS, exSs, exS, evE, evEs, evAnd, evOr, primF, views, view, allD, asB, asD, primD, addD, int2, two, one, negD, lenD, tupD, lstD, intD, strD, inD, strsOf, ixD, noneB, tyIs, slcF, slc0, slc1, slc2, slc3, cut, HT.sIx, setMany, setManyV, bindT, itemsOf, recvOk, isLst, isStr, eqF_str, eqF_int, mulOk_l, mulOk_mod, size_line', atIx_0, atIx_1, atIx_2, atIx_3, atIx_n1, atIx_n2, atIx_n3, atIx_n4]; exact rfl⟩
      all_goals omega
theorem try_ok {d : Nat} (hb : HB d) : HT d := by
  intro m st kc kn hm hst hkn
  obtain ⟨ch, hch, e0⟩ := atIx_mem [97, 98, 99, 100] (i := m / 64 % 4) (by omega) (by show _ < (4 : Int); omega)
  have hnm : (⟨#[ch]⟩ : Str) ∈ abcd := by
    simp only [List.mem_cons, List.not_mem_nil, or_false] at hch
    rcases hch with rfl | rfl | rfl | rfl <;> simp
  obtain ⟨ord, hord, e1⟩ := atIx_map (fun l : List Str => PyData.tuple (l.map .str)) [[⟨#[114, 101, 100]⟩, ⟨#[103, 114, 101, 101, 110]⟩, ⟨#[98, 108, 117, 101]⟩], [⟨#[98, 108, 117, 101]⟩, ⟨#[114, 101, 100]⟩, ⟨#[103, 114, 101, 101, 110]⟩]] (i := m / 4 % 2) (by omega) (by show _ < (2 : Int); omega)
  simp only [List.map] at e1
  have ho : ∃ s0 s1 s2, ord = [s0, s1, s2] ∧ [s0, s1, s2].Nodup ∧ ∀ s ∈ [s0, s1, s2], s ∈ sortsW := by
    simp only [List.mem_cons, List.not_mem_nil, or_false] at hord
    rcases hord with rfl | rfl
    · exact ⟨_, _, _, rfl, by decide +kernel, by simp⟩
    · exact ⟨_, _, _, rfl, by decide +kernel, by simp⟩
  obtain ⟨s0, s1, s2, rfl, hnd, hso⟩ := ho
  -- the blocks, whether wanted or not
  have blk : ∀ (k : Int) (st' : Store), 0 ≤ k ∧ k < 1000 → st'[kc]? = some (.lst (encK kn)) → ∃ r b, WfB kn d b ∧ Calls tab 1 i_law_drawn [.d (.int m), .d (.int k)] st' (.d (.int r), st') ∧ Calls tab (3 * d + 5) i_law_block [.d (.int (r / 4)), .ref kc, .d (.int d)] st' (.d (.tuple (encDs b)), st') := fun k st' hk h => by
    obtain ⟨r, hr, c1⟩ := drawn_ok m k hk st'
    obtain ⟨b, hw, c2⟩ := hb (r / 4) st' kc kn (by omega) h hkn
    exact ⟨r, b, hw, c1, c2⟩
  -- the catches so far, as the loop goes
  have stepC : ∀ (i : Int) (s : Str) (div : Int) (cs : List Catch), atIx [PyData.int 8, .int 16, .int 32] i = some (.int div) → 0 < div ∧ div < 1000 → 0 ≤ i ∧ i < 3 → s ∈ sortsW → ∃ cs' : List Catch, (cs' = cs ∨ ∃ c : Catch, cs' = cs ++ [c] ∧ c.s = s ∧ c.x ∈ abcd ∧ WfB kn d c.b) ∧
      ∀ n, 3 * d + 5 ≤ n → ∀ o4 o7, ∃ o7', cs.length < 16777216 → exSs tab (callF tab n) lb_law_try_0 [some (.d (.int m)), some (.ref kc), some (.d (.int d)), some (.ref st.length), o4, some (.d (.int i)), some (.d (.str s)), o7] (st ++ [.lst (cs.map encC)]) =
        some (.next, [some (.d (.int m)), some (.ref kc), some (.d (.int d)), some (.ref st.length), o4, some (.d (.int i)), some (.d (.str s)), o7'], st ++ [.lst (cs'.map encC)]) := by
    intro i s div cs hdiv hd2 hi hs
    by_cases hc : m / div % 2 = 0
    · obtain ⟨r, b, hw, c1, c2⟩ := blk (20 + i) (st ++ [.lst (cs.map encC)]) (by omega) (get_low hst _)
      refine ⟨cs ++ [⟨s, ⟨#[ch]⟩, b⟩], .inr ⟨_, rfl, rfl, hnm, hw⟩, fun n hn o4 o7 => ⟨some (.d (.tuple (encDs b))), fun hlen => ?_⟩⟩
      have g1 := c1 n (by omega)
      have g2 := c2 n (by omega)
      have hd3 : 0 < div ∧ div < 1073741824 := by omega
      simp [lb_law_try_0, hdiv, hd3, hc, g1, g2, e0, get_top, set_top, hlen, encC, startS, exSs, exS, evE, evEs, evAnd, evOr, primF, views, view, allD, asB, asD, primD, addD, int2, two, one, negD, lenD, tupD, lstD, intD, strD, inD, strsOf, ixD, noneB, tyIs, slcF, slc0, slc1, slc2, slc3, cut, HT.sIx, setMany, setManyV, bindT, itemsOf, recvOk, isLst, isStr, eqF_str, eqF_int, mulOk_l, mulOk_mod, size_line', atIx_0, atIx_1, atIx_2, atIx_3, atIx_n1, atIx_n2, atIx_n3, atIx_n4]
    · refine ⟨cs, .inl rfl, fun n hn o4 o7 => ⟨o7, fun hlen => ?_⟩⟩
      have hd3 : 0 < div ∧ div < 1073741824 := by omega
      simp [lb_law_try_0, hdiv, hd3, hc, startS, exSs, exS, evE, evEs, evAnd, evOr, primF, views, view, allD, asB, asD, primD, addD, int2, two, one, negD, lenD, tupD, lstD, intD, strD, inD, strsOf, ixD, noneB, tyIs, slcF, slc0, slc1, slc2, slc3, cut, HT.sIx, setMany, setManyV, bindT, itemsOf, recvOk, isLst, isStr, eqF_str, eqF_int, mulOk_l, mulOk_mod, size_line', atIx_0, atIx_1, atIx_2, atIx_3, atIx_n1, atIx_n2, atIx_n3, atIx_n4]
  obtain ⟨cs1, h1, f1⟩ := stepC 0 s0 8 [] rfl (by omega) (by omega) (hso _ (by simp))
  obtain ⟨cs2, h2, f2⟩ := stepC 1 s1 16 cs1 rfl (by omega) (by omega) (hso _ (by simp))
  obtain ⟨cs3, h3, f3⟩ := stepC 2 s2 32 cs2 rfl (by omega) (by omega) (hso _ (by simp))
  have l1 : cs1.length ≤ 1 := by rcases h1 with rfl | ⟨c, rfl, _⟩ <;> simp
  have l2 : cs2.length ≤ 2 := by
    rcases h2 with h | ⟨c, h, _⟩
    · rw [h]; omega
    · rw [h, List.length_append, List.length_singleton]; omega
  have l3 : cs3.length ≤ 3 := by
    rcases h3 with h | ⟨c, h, _⟩
    · rw [h]; omega
    · rw [h, List.length_append, List.length_singleton]; omega
  have w1 : ∀ c ∈ cs1, c.s ∈ sortsW ∧ c.x ∈ abcd ∧ WfB kn d c.b := by
    rcases h1 with rfl | ⟨c, rfl, a1, a2, a3⟩
    · simp
    · intro c' hc; simp at hc; subst hc; exact ⟨by rw [a1]; exact hso _ (by simp), a2, a3⟩
  have w2 : ∀ c ∈ cs2, c.s ∈ sortsW ∧ c.x ∈ abcd ∧ WfB kn d c.b := by
    rcases h2 with rfl | ⟨c, rfl, a1, a2, a3⟩
    · exact w1
    · intro c' hc
      rcases List.mem_append.mp hc with hc | hc
      · exact w1 _ hc
      · simp at hc; subst hc; exact ⟨by rw [a1]; exact hso _ (by simp), a2, a3⟩
  have w3 : ∀ c ∈ cs3, c.s ∈ sortsW ∧ c.x ∈ abcd ∧ WfB kn d c.b := by
    rcases h3 with rfl | ⟨c, rfl, a1, a2, a3⟩
    · exact w2
    · intro c' hc
      rcases List.mem_append.mp hc with hc | hc
      · exact w2 _ hc
      · simp at hc; subst hc; exact ⟨by rw [a1]; exact hso _ (by simp), a2, a3⟩
  have nd3 : (cs3.map (·.s)).Nodup := by
    have t1 : List.Sublist (cs1.map (·.s)) [s0] := by
      rcases h1 with hh | ⟨c, hh, hs, _⟩
      · rw [hh]; exact List.nil_sublist _
      · rw [hh]; simp [hs]
    have t2 : List.Sublist (cs2.map (·.s)) ([s0] ++ [s1]) := by
      rcases h2 with hh | ⟨c, hh, hs, _⟩
      · rw [hh]; exact t1.trans (List.sublist_append_left _ _)
      · rw [hh, List.map_append, ← hs]; exact t1.append (List.Sublist.refl _)
    have t3 : List.Sublist (cs3.map (·.s)) (([s0] ++ [s1]) ++ [s2]) := by
      rcases h3 with hh | ⟨c, hh, hs, _⟩
      · rw [hh]; exact t2.trans (List.sublist_append_left _ _)
      · rw [hh, List.map_append, ← hs]; exact t2.append (List.Sublist.refl _)
    exact t3.nodup hnd
  obtain ⟨rb, bb, hwb, cb1, cb2⟩ := blk 25 (st ++ [.lst (cs3.map encC)]) (by decide) (get_low hst _)
  obtain ⟨rl, bl, hwl, cl1, cl2⟩ := blk 24 (st ++ [.lst (cs3.map encC)]) (by decide) (get_low hst _)
  have key : ∀ n, 3 * d + 5 ≤ n → ∃ o7, exS tab (callF tab n) lp_law_try_0 [some (.d (.int m)), some (.ref kc), some (.d (.int d)), some (.ref st.length), none, none, none, none] (st ++ [.lst []]) =
      some (.next, [some (.d (.int m)), some (.ref kc), some (.d (.int d)), some (.ref st.length), none, some (.d (.int 2)), some (.d (.str s2)), o7], st ++ [.lst (cs3.map encC)]) := by
    intro n hn
    obtain ⟨p1, q1⟩ := f1 n hn none none
    obtain ⟨p2, q2⟩ := f2 n hn none p1
    obtain ⟨p3, q3⟩ := f3 n hn none p2
    have q1 := q1 (by simp)
    have q2 := q2 (by omega)
    have q3 := q3 (by omega)
    simp only [List.map_nil] at q1
    refine ⟨p3, ?_⟩
    simp [lp_law_try_0, e1, forL, List.range, List.range.loop, startS, exSs, exS, evE, evEs, evAnd, evOr, primF, views, view, allD, asB, asD, primD, addD, int2, two, one, negD, lenD, tupD, lstD, intD, strD, inD, strsOf, ixD, noneB, tyIs, slcF, slc0, slc1, slc2, slc3, cut, HT.sIx, setMany, setManyV, bindT, itemsOf, recvOk, isLst, isStr, eqF_str, eqF_int, mulOk_l, mulOk_mod, size_line', atIx_0, atIx_1, atIx_2, atIx_3, atIx_n1, atIx_n2, atIx_n3, atIx_n4]
    simp [q1, q2, q3]
  by_cases hl : m / 256 % 2 = 0
  · refine ⟨.try_ bb (Cs.of cs3) bl, ⟨hwb, hwl, wfCs_of cs3 w3, by rw [toC_of]; exact nd3, by rw [toC_of]; exact l3⟩, Calls.mk (fn := f_law_try) (k := 3 * d + 5) rfl rfl fun n hn => ?_⟩
    obtain ⟨o7, q⟩ := key n hn
    have g1 := cb1 n (by omega)
    have g2 := cb2 n (by omega)
    have g3 := cl1 n (by omega)
    have g4 := cl2 n (by omega)
    exact ⟨_, [.lst (cs3.map encC)], by simp [f_law_try, q, hl, g1, g2, g3, g4, get_top, encD, encC_of, startS, exSs, exS, evE, evEs, evAnd, evOr, primF, views, view, allD, asB, asD, primD, addD, int2, two, one, negD, lenD, tupD, lstD, intD, strD, inD, strsOf, ixD, noneB, tyIs, slcF, slc0, slc1, slc2, slc3, cut, HT.sIx, setMany, setManyV, bindT, itemsOf, recvOk, isLst, isStr, eqF_str, eqF_int, mulOk_l, mulOk_mod, size_line', atIx_0, atIx_1, atIx_2, atIx_3, atIx_n1, atIx_n2, atIx_n3, atIx_n4]; exact rfl⟩
  · refine ⟨.try_ bb (Cs.of cs3) .nil, ⟨hwb, trivial, wfCs_of cs3 w3, by rw [toC_of]; exact nd3, by rw [toC_of]; exact l3⟩, Calls.mk (fn := f_law_try) (k := 3 * d + 5) rfl rfl fun n hn => ?_⟩
    obtain ⟨o7, q⟩ := key n hn
    have g1 := cb1 n (by omega)
    have g2 := cb2 n (by omega)
    exact ⟨_, [.lst (cs3.map encC)], by simp [f_law_try, q, hl, g1, g2, get_top, encD, encDs, encC_of, startS, exSs, exS, evE, evEs, evAnd, evOr, primF, views, view, allD, asB, asD, primD, addD, int2, two, one, negD, lenD, tupD, lstD, intD, strD, inD, strsOf, ixD, noneB, tyIs, slcF, slc0, slc1, slc2, slc3, cut, HT.sIx, setMany, setManyV, bindT, itemsOf, recvOk, isLst, isStr, eqF_str, eqF_int, mulOk_l, mulOk_mod, size_line', atIx_0, atIx_1, atIx_2, atIx_3, atIx_n1, atIx_n2, atIx_n3, atIx_n4]; exact rfl⟩
theorem all_ok : ∀ d, HB d ∧ HD d
  | 0 => ⟨block0, deed_ok block0 (try_ok block0)⟩
  | d + 1 =>
    have hb := block1 (all_ok d).2
    ⟨hb, deed_ok hb (try_ok hb)⟩
theorem book_ok (m : Int) (st : Store) (hm : 0 ≤ m) : ∃ ms, WfBook ms ∧ ms ≠ [] ∧ Calls tab 18 i_law_book [.d (.int m)] st (.d (.tuple (ms.map encM)), st) := by
  obtain ⟨c, hc, e0⟩ := atIx_map (fun n : Nat => PyData.int n) [2, 1, 3, 4, 2, 3] (i := m % 6) (by omega) (by show _ < (6 : Int); omega)
  have hc4 : 0 < c ∧ c ≤ 4 := by simp at hc; omega
  simp [List.map] at e0
  have go : ∀ c : Nat, c ≤ 4 → ∃ ms, WfBook ms ∧ ms.length = c ∧ ∀ n, 17 ≤ n → ∃ o3 o4 o5 o6 o7, RunsTo (fun ρ s => exSs tab (callF tab n) lb_law_book_0 ρ s) (.one 3) ((List.range c).map fun (i : Nat) => .int i)
      [some (.d (.int m)), some (.ref st.length), some (.d (.tuple [])), none, none, none, none, none] (st ++ [.lst []])
      [some (.d (.int m)), some (.ref st.length), some (.d (.tuple (ms.map encM))), o3, o4, o5, o6, o7] (st ++ [.lst (encK (knownOf ms))]) := by
    intro c
    induction c with
    | zero => exact fun _ => ⟨[], .nil, rfl, fun n hn => ⟨none, none, none, none, none, .nil⟩⟩
    | succ c ih =>
      intro hc
      obtain ⟨ms, hw, hl, run⟩ := ih (by omega)
      obtain ⟨r, hr, c1⟩ := drawn_ok m c (by omega) (st ++ [.lst (encK (knownOf ms))])
      obtain ⟨nms, hn, e1⟩ := atIx_map (fun l : List Str => PyData.tuple (l.map .str)) namesW (i := r / 4 % 4) (by omega) (by show _ < (4 : Int); omega)
      obtain ⟨nm, hnm⟩ : ∃ nm, mkW[c]? = some nm := ⟨mkW[c]'(by show c < 4; omega), List.getElem?_eq_getElem _⟩
      have e2 : atIx [PyData.str ⟨#[111, 110, 101]⟩, .str ⟨#[102]⟩, .str ⟨#[116, 119, 111]⟩, .str ⟨#[103, 111]⟩] (c : Int) = some (.str nm) := by
        rw [atIx_nat]
        show (mkW.map PyData.str)[c]? = _
        rw [List.getElem?_map, hnm]; rfl
      obtain ⟨d, hd, hd4⟩ : ∃ d : Nat, (d : Int) = 2 + r / 4 / 32 % 3 ∧ d ≤ 4 := ⟨(2 + r / 4 / 32 % 3).toNat, by omega, by omega⟩
      obtain ⟨b, hb, c2⟩ := (all_ok d).1 (r / 4 / 4) (st ++ [.lst (encK (knownOf ms))]) st.length (knownOf ms) (by omega) (get_top _ _) hw.ar
      rw [hd] at c2
      simp only [namesW, List.map] at e1
      have hnl : nms.length ≤ 3 := by
        simp [namesW] at hn
        rcases hn with h | h | h | h <;> rw [h] <;> decide
      have hm4 : ms.length < 16777216 := by omega
      have hm5 : ms.length + 1 ≤ 16777216 := by omega
      have hm6 : (encK (knownOf ms)).length < 16777216 := by simp [encK, knownOf]; omega
      refine ⟨ms ++ [⟨nm, nms, b⟩], .snoc hw (by omega) (by rw [hl]; exact hnm) hn ⟨d, hd4, hb⟩, by simp [hl], fun n hn => ?_⟩
      obtain ⟨o3, o4, o5, o6, o7, run⟩ := run n hn
      have g1 := c1 n (by omega)
      have g2 := c2 n (by omega)
      refine ⟨some (.d (.int c)), some (.d (.int (r / 4))), some (.d (.tuple (nms.map .str))), some (.d (.str nm)), some (.d (.tuple (encDs b))), ?_⟩
      rw [List.range_succ, List.map_append]
      refine run.snoc (rfl : bindT (.one 3) _ _ = some _) ?_
      simp [lb_law_book_0, g1, g2, e1, e2, hm4, hm5, hm6, get_top, set_top, knownOf_snoc, encM, startS, exSs, exS, evE, evEs, evAnd, evOr, primF, views, view, allD, asB, asD, primD, addD, int2, two, one, negD, lenD, tupD, lstD, intD, strD, inD, strsOf, ixD, noneB, tyIs, slcF, slc0, slc1, slc2, slc3, cut, HT.sIx, setMany, setManyV, bindT, itemsOf, recvOk, isLst, isStr, eqF_str, eqF_int, mulOk_l, mulOk_mod, size_line', atIx_0, atIx_1, atIx_2, atIx_3, atIx_n1, atIx_n2, atIx_n3, atIx_n4]
  obtain ⟨ms, hw, hl, run⟩ := go c hc4.2
  refine ⟨ms, hw, fun h => by rw [h] at hl; simp at hl; omega, Calls.mk (fn := f_law_book) (k := 17) rfl rfl fun n hn => ?_⟩
  obtain ⟨o3, o4, o5, o6, o7, run⟩ := run n hn
  have key : exS tab (callF tab n) lp_law_book_0 [some (.d (.int m)), some (.ref st.length), some (.d (.tuple [])), none, none, none, none, none] (st ++ [.lst []]) = some (.next, [some (.d (.int m)), some (.ref st.length), some (.d (.tuple (ms.map encM))), o3, o4, o5, o6, o7], st ++ [.lst (encK (knownOf ms))]) := by
    have h1 := run.end
    have hc5 : (c : Int) ≤ 16777216 := by omega
    simp [lp_law_book_0, e0, hc5, startS, exSs, exS, evE, evEs, evAnd, evOr, primF, views, view, allD, asB, asD, primD, addD, int2, two, one, negD, lenD, tupD, lstD, intD, strD, inD, strsOf, ixD, noneB, tyIs, slcF, slc0, slc1, slc2, slc3, cut, HT.sIx, setMany, setManyV, bindT, itemsOf, recvOk, isLst, isStr, eqF_str, eqF_int, mulOk_l, mulOk_mod, size_line', atIx_0, atIx_1, atIx_2, atIx_3, atIx_n1, atIx_n2, atIx_n3, atIx_n4]
    exact h1
  exact ⟨_, [.lst (encK (knownOf ms))], by simp [f_law_book, key, startS, exSs, exS, evE, evEs, evAnd, evOr, primF, views, view, allD, asB, asD, primD, addD, int2, two, one, negD, lenD, tupD, lstD, intD, strD, inD, strsOf, ixD, noneB, tyIs, slcF, slc0, slc1, slc2, slc3, cut, HT.sIx, setMany, setManyV, bindT, itemsOf, recvOk, isLst, isStr, eqF_str, eqF_int, mulOk_l, mulOk_mod, size_line', atIx_0, atIx_1, atIx_2, atIx_3, atIx_n1, atIx_n2, atIx_n3, atIx_n4]; exact rfl⟩
end K03
namespace K03
open PySem Thr
theorem sum_words_ok : ∀ (d : Nat) (s : Sm) (st : Store), WfS d s → tot (sumWords s) ≤ 16000000 → Calls tab (d + 1) i_sum_words [.d (encS s)] st (.d (.list ((sumWords s).map .str)), st)
  | d, .num m, st, h, ht => by
    have q := strD_ok (n := m) (by cases d <;> exact h)
    exact Calls.mk0 (fn := f_sum_words) rfl rfl fun n hn => ⟨_, by simp [f_sum_words, encS, sumWords, q, startS, exSs, exS, evE, evEs, evAnd, evOr, primF, views, view, allD, asB, asD, primD, int2, two, one, negD, lenD, tupD, lstD, intD, inD, strsOf, ixD, noneB, tyIs, slcF, slc0, slc1, slc2, slc3, cut, HT.sIx, setMany, setManyV, bindT, itemsOf, recvOk, isLst, isStr, eqF_str, eqF_int, mulOk_l, mulOk_mod, size_line', atIx_0, atIx_1, atIx_2, atIx_3, atIx_n1, atIx_n2, atIx_n3, atIx_n4, addD_int, addD_str, addD_list, addD_tuple]; exact rfl⟩
  | d, .nm s, st, h, ht => by
    have q : strD (.str s) = some (.str s) := rfl
    exact Calls.mk0 (fn := f_sum_words) rfl rfl fun n hn => ⟨_, by simp [f_sum_words, encS, sumWords, q, startS, exSs, exS, evE, evEs, evAnd, evOr, primF, views, view, allD, asB, asD, primD, int2, two, one, negD, lenD, tupD, lstD, intD, inD, strsOf, ixD, noneB, tyIs, slcF, slc0, slc1, slc2, slc3, cut, HT.sIx, setMany, setManyV, bindT, itemsOf, recvOk, isLst, isStr, eqF_str, eqF_int, mulOk_l, mulOk_mod, size_line', atIx_0, atIx_1, atIx_2, atIx_3, atIx_n1, atIx_n2, atIx_n3, atIx_n4, addD_int, addD_str, addD_list, addD_tuple]; exact rfl⟩
  | 0, .op _ _ _, st, h, ht => h.elim
  | d + 1, .op w a b, st, ⟨h1, h2, h3⟩, ht => by
    simp only [sumWords, tot_app, tot_cons, tot_nil] at ht
    have ca := sum_words_ok d a st h2 (by omega)
    have cb := sum_words_ok d b st h3 (by omega)
    have la := tot_len (sumWords a)
    have lb := tot_len (sumWords b)
    refine Calls.mk0 (fn := f_sum_words) rfl rfl fun n hn => ?_
    have g1 := ca n hn
    have g2 := cb n hn
    exact ⟨_, by simp (disch := first | assumption | ((try simp only [List.length_append, List.length_map, List.length_cons, List.length_nil, sl_add, sl_lit, List.size_toArray]); omega)) [f_sum_words, encS, sumWords, g1, g2, startS, exSs, exS, evE, evEs, evAnd, evOr, primF, views, view, allD, asB, asD, primD, int2, two, one, negD, lenD, tupD, lstD, intD, inD, strsOf, ixD, noneB, tyIs, slcF, slc0, slc1, slc2, slc3, cut, HT.sIx, setMany, setManyV, bindT, itemsOf, recvOk, isLst, isStr, eqF_str, eqF_int, mulOk_l, mulOk_mod, size_line', atIx_0, atIx_1, atIx_2, atIx_3, atIx_n1, atIx_n2, atIx_n3, atIx_n4, addD_int, addD_str, addD_list, addD_tuple]; exact rfl⟩
theorem sum_text_ok : ∀ (d : Nat) (s : Sm) (st : Store), WfS d s → tot (sumWords s) ≤ 16000000 → Calls tab (d + 1) i_law_sum_text [.d (encS s)] st (.d (.str (jn (sumWords s))), st)
  | d, .num m, st, h, ht => by
    have q := strD_ok (n := m) (by cases d <;> exact h)
    exact Calls.mk0 (fn := f_law_sum_text) rfl rfl fun n hn => ⟨_, by simp [f_law_sum_text, encS, sumWords, q, jn_one, startS, exSs, exS, evE, evEs, evAnd, evOr, primF, views, view, allD, asB, asD, primD, int2, two, one, negD, lenD, tupD, lstD, intD, inD, strsOf, ixD, noneB, tyIs, slcF, slc0, slc1, slc2, slc3, cut, HT.sIx, setMany, setManyV, bindT, itemsOf, recvOk, isLst, isStr, eqF_str, eqF_int, mulOk_l, mulOk_mod, size_line', atIx_0, atIx_1, atIx_2, atIx_3, atIx_n1, atIx_n2, atIx_n3, atIx_n4, addD_int, addD_str, addD_list, addD_tuple]; exact rfl⟩
  | d, .nm s, st, h, ht => by
    have q : strD (.str s) = some (.str s) := rfl
    exact Calls.mk0 (fn := f_law_sum_text) rfl rfl fun n hn => ⟨_, by simp [f_law_sum_text, encS, sumWords, q, jn_one, startS, exSs, exS, evE, evEs, evAnd, evOr, primF, views, view, allD, asB, asD, primD, int2, two, one, negD, lenD, tupD, lstD, intD, inD, strsOf, ixD, noneB, tyIs, slcF, slc0, slc1, slc2, slc3, cut, HT.sIx, setMany, setManyV, bindT, itemsOf, recvOk, isLst, isStr, eqF_str, eqF_int, mulOk_l, mulOk_mod, size_line', atIx_0, atIx_1, atIx_2, atIx_3, atIx_n1, atIx_n2, atIx_n3, atIx_n4, addD_int, addD_str, addD_list, addD_tuple]; exact rfl⟩
  | 0, .op _ _ _, st, h, ht => h.elim
  | d + 1, .op w a b, st, ⟨h1, h2, h3⟩, ht => by
    simp only [sumWords, tot_app, tot_cons, tot_nil] at ht
    have ca := sum_text_ok d a st h2 (by omega)
    have cb := sum_text_ok d b st h3 (by omega)
    have la := jn_len (sumWords a)
    have lb := jn_len (sumWords b)
    refine Calls.mk0 (fn := f_law_sum_text) rfl rfl fun n hn => ?_
    have g1 := ca n hn
    have g2 := cb n hn
    have e : jn (sumWords (.op w a b)) = w ++ wsp ++ jn (sumWords a) ++ wsp ++ jn (sumWords b) := by
      show jn ([w] ++ sumWords a ++ sumWords b) = _
      rw [jn_app (by simp) (ne_sum b), jn_app (by simp) (ne_sum a)]; rfl
    have l1 : wsp.length = 1 := rfl
    rw [e]
    exact ⟨_, by simp (disch := first | assumption | ((try simp only [List.length_append, List.length_map, List.length_cons, List.length_nil, sl_add, sl_lit, List.size_toArray]); omega)) [f_law_sum_text, encS, g1, g2, startS, exSs, exS, evE, evEs, evAnd, evOr, primF, views, view, allD, asB, asD, primD, int2, two, one, negD, lenD, tupD, lstD, intD, inD, strsOf, ixD, noneB, tyIs, slcF, slc0, slc1, slc2, slc3, cut, HT.sIx, setMany, setManyV, bindT, itemsOf, recvOk, isLst, isStr, eqF_str, eqF_int, mulOk_l, mulOk_mod, size_line', atIx_0, atIx_1, atIx_2, atIx_3, atIx_n1, atIx_n2, atIx_n3, atIx_n4, addD_int, addD_str, addD_list, addD_tuple]; exact rfl⟩
/-! the program's words -/
def PB (kn : Known) (d : Nat) : Prop := ∀ (b : Ds) (st : Store), WfB kn d b → tot (blockW b) ≤ 16000000 → Calls tab (3 * d + 4) i_block_words [.d (.tuple (encDs b))] st (.d (.list ((blockW b).map .str)), st)
def PD (kn : Known) (d : Nat) : Prop := ∀ (x : Dd) (st : Store), WfD kn d x → tot (deedWords x) ≤ 16000000 → Calls tab (3 * d + 6) i_deed_words [.d (encD x)] st (.d (.list ((deedWords x).map .str)), st)
theorem items_tuple (xs : List PyData) : itemsOf .seq [.tuple xs] = some xs := rfl
theorem blk_words {kn : Known} {d k : Nat} (hd : ∀ b : Ds, WfB kn d b → ∀ x ∈ b.to, ∀ st, tot (deedWords x) ≤ 16000000 → Calls tab k i_deed_words [.d (encD x)] st (.d (.list ((deedWords x).map .str)), st)) (b : Ds) (st : Store) (h : WfB kn d b) (ht : tot (blockW b) ≤ 16000000) :
    Calls tab (k + 1) i_block_words [.d (.tuple (encDs b))] st (.d (.list ((blockW b).map .str)), st) := by
  refine Calls.mk0 (fn := f_block_words) rfl rfl fun n hn => ?_
  have key : ∃ ρ s', exS tab (callF tab n) lp_block_words_0 [some (.d (.tuple (encDs b))), some (.d (.list [.str wlb])), none] st = some (.next, ρ, s') ∧ (∃ o, ρ = [some (.d (.tuple (encDs b))), some (.d (.list (([wlb] ++ b.to.flatMap fun d => deedWords d ++ [wsemi]).map .str))), o] ∧ s' = st) := by
    unfold lp_block_words_0
    refine ex_for encD b.to (fun done ρ s => ∃ o, ρ = [some (.d (.tuple (encDs b))), some (.d (.list (([wlb] ++ done.flatMap fun d => deedWords d ++ [wsemi]).map .str))), o] ∧ s = st) (vs := [.d (.tuple (encDs b))]) (ds := [.tuple (encDs b)]) (by simp [startS, exSs, exS, evE, evEs, evAnd, evOr, primF, views, view, allD, asB, asD, primD, addD, int2, two, one, negD, lenD, tupD, lstD, intD, strD, inD, strsOf, ixD, noneB, tyIs, slcF, slc0, slc1, slc2, slc3, cut, HT.sIx, setMany, setManyV, bindT, itemsOf, recvOk, isLst, isStr, eqF_str, eqF_int, mulOk_l, mulOk_mod, size_line', atIx_0, atIx_1, atIx_2, atIx_3, atIx_n1, atIx_n2, atIx_n3, atIx_n4]) rfl (by rw [items_tuple, enc_to]) ⟨none, rfl, rfl⟩ ?_
    rintro done x rest ρ s he ⟨o, rfl, rfl⟩
    refine ⟨_, rfl, ?_⟩
    have hx : x ∈ b.to := by rw [he]; simp
    have ht2 : tot (done.flatMap fun d => deedWords d ++ [wsemi]) + tot (deedWords x) ≤ 16000000 := by
      simp only [blockW, itemsW_to, he, List.flatMap_append, List.flatMap_cons, tot_app] at ht
      omega
    have l1 := tot_len (done.flatMap fun d => deedWords d ++ [wsemi])
    have l2 := tot_len (deedWords x)
    have g1 := hd b h x hx s (by omega) n hn
    exact ⟨_, _, by simp (disch := first | assumption | ((try simp only [List.length_append, List.length_map, List.length_cons, List.length_nil, sl_add, sl_lit, List.size_toArray]); omega)) [lb_block_words_0, g1, startS, exSs, exS, evE, evEs, evAnd, evOr, primF, views, view, allD, asB, asD, primD, int2, two, one, negD, lenD, tupD, lstD, intD, inD, strsOf, ixD, noneB, tyIs, slcF, slc0, slc1, slc2, slc3, cut, HT.sIx, setMany, setManyV, bindT, itemsOf, recvOk, isLst, isStr, eqF_str, eqF_int, mulOk_l, mulOk_mod, size_line', atIx_0, atIx_1, atIx_2, atIx_3, atIx_n1, atIx_n2, atIx_n3, atIx_n4, addD_int, addD_str, addD_list, addD_tuple]; exact rfl, some (.d (encD x)), by simp, rfl⟩
  obtain ⟨ρ, s', e, o, rfl, rfl⟩ := key
  have l1 := tot_len (itemsW b)
  have ht2 : tot (itemsW b) ≤ 16000000 := by
    simp only [blockW, tot_app] at ht; omega
  rw [itemsW_to] at l1 ht2
  exact ⟨_, by simp (disch := first | assumption | ((try simp only [List.length_append, List.length_map, List.length_cons, List.length_nil, sl_add, sl_lit, List.size_toArray]); omega)) [f_block_words, e, blockW, itemsW_to, startS, exSs, exS, evE, evEs, evAnd, evOr, primF, views, view, allD, asB, asD, primD, int2, two, one, negD, lenD, tupD, lstD, intD, inD, strsOf, ixD, noneB, tyIs, slcF, slc0, slc1, slc2, slc3, cut, HT.sIx, setMany, setManyV, bindT, itemsOf, recvOk, isLst, isStr, eqF_str, eqF_int, mulOk_l, mulOk_mod, size_line', atIx_0, atIx_1, atIx_2, atIx_3, atIx_n1, atIx_n2, atIx_n3, atIx_n4, addD_int, addD_str, addD_list, addD_tuple]; exact rfl⟩
theorem blk_words0 (kn : Known) : PB kn 0 := by
  intro b st h ht
  refine (blk_words (kn := kn) (d := 0) (k := 3) (fun b hb x hx => ?_) b st h ht)
  rcases wfB_to hb with rfl | ⟨q, _⟩
  · cases hx
  · omega
theorem blk_words1 {kn : Known} {d : Nat} (hd : PD kn d) : PB kn (d + 1) := by
  intro b st h ht
  refine (blk_words (kn := kn) (d := d + 1) (k := 3 * d + 6) (fun b hb x hx st ht => ?_) b st h ht)
  rcases wfB_to hb with rfl | ⟨q, _, q2⟩
  · cases hx
  · exact hd x st (q2 x hx) ht
theorem try_words_ok {kn : Known} {d : Nat} (hb : PB kn d) (b : Ds) (cs : Cs) (l : Ds) (st : Store) (h : WfD kn d (.try_ b cs l)) (ht : tot (deedWords (.try_ b cs l)) ≤ 16000000) :
    Calls tab (3 * d + 5) i_try_words [.d (encD (.try_ b cs l))] st (.d (.list ((deedWords (.try_ b cs l)).map .str)), st) := by
  obtain ⟨h1, h2, h3, _, h5⟩ := h
  simp only [dw_try, tot_app] at ht
  refine Calls.mk0 (fn := f_try_words) (k := 3 * d + 4) rfl rfl fun n hn => ?_
  have g1 := hb b st h1 (by omega) n hn
  have g2 := hb l st h2 (by omega) n hn
  have l1 := tot_len (blockW b)
  have l2 := tot_len (blockW l)
  have l3 := tot_len (cs.to.flatMap cW)
  have key : ∃ ρ s', exS tab (callF tab n) lp_try_words_0 [some (.d (encD (.try_ b cs l))), some (.d (.list (([wTry] ++ blockW b).map .str))), none, none, none] st = some (.next, ρ, s') ∧
      (∃ o2 o3 o4, ρ = [some (.d (encD (.try_ b cs l))), some (.d (.list (([wTry] ++ blockW b ++ cs.to.flatMap cW).map .str))), o2, o3, o4] ∧ s' = st) := by
    unfold lp_try_words_0
    refine ex_for encC cs.to (fun done ρ s => ∃ o2 o3 o4, ρ = [some (.d (encD (.try_ b cs l))), some (.d (.list (([wTry] ++ blockW b ++ done.flatMap cW).map .str))), o2, o3, o4] ∧ s = st) (vs := [.d (.tuple (encCs cs))]) (ds := [.tuple (encCs cs)]) (by simp [encD, startS, exSs, exS, evE, evEs, evAnd, evOr, primF, views, view, allD, asB, asD, primD, addD, int2, two, one, negD, lenD, tupD, lstD, intD, strD, inD, strsOf, ixD, noneB, tyIs, slcF, slc0, slc1, slc2, slc3, cut, HT.sIx, setMany, setManyV, bindT, itemsOf, recvOk, isLst, isStr, eqF_str, eqF_int, mulOk_l, mulOk_mod, size_line', atIx_0, atIx_1, atIx_2, atIx_3, atIx_n1, atIx_n2, atIx_n3, atIx_n4]) rfl (by rw [items_tuple, encC_to]) ⟨none, none, none, by simp, rfl⟩ ?_
    rintro done x rest ρ s he ⟨o2, o3, o4, rfl, rfl⟩
    refine ⟨_, rfl, ?_⟩
    have hx : x ∈ cs.to := by rw [he]; simp
    have ht2 : tot (blockW b) + tot (done.flatMap cW) + tot (cW x) ≤ 16000000 := by
      simp only [he, List.flatMap_append, List.flatMap_cons, tot_app] at ht
      omega
    have ht3 := ht2
    simp only [cW, tot_app] at ht3
    have l1 := tot_len (done.flatMap cW)
    have l2 := tot_len (blockW x.b)
    have g1 := hb x.b s (wfCs_to h3 x hx).2.2 (by omega) n hn
    exact ⟨_, _, by simp (disch := first | assumption | ((try simp only [List.length_append, List.length_map, List.length_cons, List.length_nil, sl_add, sl_lit, List.size_toArray]); omega)) [lb_try_words_0, g1, startS, exSs, exS, evE, evEs, evAnd, evOr, primF, views, view, allD, asB, asD, primD, int2, two, one, negD, lenD, tupD, lstD, intD, inD, strsOf, ixD, noneB, tyIs, slcF, slc0, slc1, slc2, slc3, cut, HT.sIx, setMany, setManyV, bindT, itemsOf, recvOk, isLst, isStr, eqF_str, eqF_int, mulOk_l, mulOk_mod, size_line', atIx_0, atIx_1, atIx_2, atIx_3, atIx_n1, atIx_n2, atIx_n3, atIx_n4, addD_int, addD_str, addD_list, addD_tuple]; exact rfl, some (.d (.str x.s)), some (.d (.str x.x)), some (.d (.tuple (encDs x.b))), by simp [cW], rfl⟩
  obtain ⟨ρ, s', e, o2, o3, o4, rfl, rfl⟩ := key
  simp only [encD, List.map_append, List.map_cons, List.map_nil, List.cons_append, List.nil_append] at e g1 g2 ⊢
  exact ⟨_, by simp (disch := first | assumption | ((try simp only [List.length_append, List.length_map, List.length_cons, List.length_nil, sl_add, sl_lit, List.size_toArray]); omega)) [f_try_words, e, g1, g2, dw_try, startS, exSs, exS, evE, evEs, evAnd, evOr, primF, views, view, allD, asB, asD, primD, int2, two, one, negD, lenD, tupD, lstD, intD, inD, strsOf, ixD, noneB, tyIs, slcF, slc0, slc1, slc2, slc3, cut, HT.sIx, setMany, setManyV, bindT, itemsOf, recvOk, isLst, isStr, eqF_str, eqF_int, mulOk_l, mulOk_mod, size_line', atIx_0, atIx_1, atIx_2, atIx_3, atIx_n1, atIx_n2, atIx_n3, atIx_n4, addD_int, addD_str, addD_list, addD_tuple]; exact rfl⟩
theorem deed_words_ok {kn : Known} {d : Nat} (hb : PB kn d) : PD kn d := by
  intro x st h ht
  cases x with
  | note a =>
    simp only [deedWords, tot_app] at ht
    have l1 := tot_len (sumWords a)
    refine Calls.mk0 (fn := f_deed_words) (k := 3 * d + 5) rfl rfl fun n hn => ?_
    have g := sum_words_ok 2 a st h (by omega) n (by omega)
    exact ⟨_, by simp (disch := first | assumption | ((try simp only [List.length_append, List.length_map, List.length_cons, List.length_nil, sl_add, sl_lit, List.size_toArray]); omega)) [f_deed_words, encD, g, deedWords, startS, exSs, exS, evE, evEs, evAnd, evOr, primF, views, view, allD, asB, asD, primD, int2, two, one, negD, lenD, tupD, lstD, intD, inD, strsOf, ixD, noneB, tyIs, slcF, slc0, slc1, slc2, slc3, cut, HT.sIx, setMany, setManyV, bindT, itemsOf, recvOk, isLst, isStr, eqF_str, eqF_int, mulOk_l, mulOk_mod, size_line', atIx_0, atIx_1, atIx_2, atIx_3, atIx_n1, atIx_n2, atIx_n3, atIx_n4, addD_int, addD_str, addD_list, addD_tuple]; exact rfl⟩
  | put x a =>
    simp only [deedWords, tot_app] at ht
    have l1 := tot_len (sumWords a)
    refine Calls.mk0 (fn := f_deed_words) (k := 3 * d + 5) rfl rfl fun n hn => ?_
    have g := sum_words_ok 2 a st h.2 (by omega) n (by omega)
    exact ⟨_, by simp (disch := first | assumption | ((try simp only [List.length_append, List.length_map, List.length_cons, List.length_nil, sl_add, sl_lit, List.size_toArray]); omega)) [f_deed_words, encD, g, deedWords, startS, exSs, exS, evE, evEs, evAnd, evOr, primF, views, view, allD, asB, asD, primD, int2, two, one, negD, lenD, tupD, lstD, intD, inD, strsOf, ixD, noneB, tyIs, slcF, slc0, slc1, slc2, slc3, cut, HT.sIx, setMany, setManyV, bindT, itemsOf, recvOk, isLst, isStr, eqF_str, eqF_int, mulOk_l, mulOk_mod, size_line', atIx_0, atIx_1, atIx_2, atIx_3, atIx_n1, atIx_n2, atIx_n3, atIx_n4, addD_int, addD_str, addD_list, addD_tuple]; exact rfl⟩
  | tell a =>
    simp only [deedWords, tot_app] at ht
    have l1 := tot_len (sumWords a)
    refine Calls.mk0 (fn := f_deed_words) (k := 3 * d + 5) rfl rfl fun n hn => ?_
    have g := sum_words_ok 2 a st h (by omega) n (by omega)
    exact ⟨_, by simp (disch := first | assumption | ((try simp only [List.length_append, List.length_map, List.length_cons, List.length_nil, sl_add, sl_lit, List.size_toArray]); omega)) [f_deed_words, encD, g, deedWords, startS, exSs, exS, evE, evEs, evAnd, evOr, primF, views, view, allD, asB, asD, primD, int2, two, one, negD, lenD, tupD, lstD, intD, inD, strsOf, ixD, noneB, tyIs, slcF, slc0, slc1, slc2, slc3, cut, HT.sIx, setMany, setManyV, bindT, itemsOf, recvOk, isLst, isStr, eqF_str, eqF_int, mulOk_l, mulOk_mod, size_line', atIx_0, atIx_1, atIx_2, atIx_3, atIx_n1, atIx_n2, atIx_n3, atIx_n4, addD_int, addD_str, addD_list, addD_tuple]; exact rfl⟩
  | throw s a =>
    simp only [deedWords, tot_app] at ht
    have l1 := tot_len (sumWords a)
    refine Calls.mk0 (fn := f_deed_words) (k := 3 * d + 5) rfl rfl fun n hn => ?_
    have g := sum_words_ok 2 a st h.2 (by omega) n (by omega)
    exact ⟨_, by simp (disch := first | assumption | ((try simp only [List.length_append, List.length_map, List.length_cons, List.length_nil, sl_add, sl_lit, List.size_toArray]); omega)) [f_deed_words, encD, g, deedWords, startS, exSs, exS, evE, evEs, evAnd, evOr, primF, views, view, allD, asB, asD, primD, int2, two, one, negD, lenD, tupD, lstD, intD, inD, strsOf, ixD, noneB, tyIs, slcF, slc0, slc1, slc2, slc3, cut, HT.sIx, setMany, setManyV, bindT, itemsOf, recvOk, isLst, isStr, eqF_str, eqF_int, mulOk_l, mulOk_mod, size_line', atIx_0, atIx_1, atIx_2, atIx_3, atIx_n1, atIx_n2, atIx_n3, atIx_n4, addD_int, addD_str, addD_list, addD_tuple]; exact rfl⟩
  | ite a b c =>
    simp only [dw_ite, tot_app] at ht
    have l1 := tot_len (sumWords a)
    have l2 := tot_len (blockW b)
    have l3 := tot_len (blockW c)
    refine Calls.mk0 (fn := f_deed_words) (k := 3 * d + 5) rfl rfl fun n hn => ?_
    have g := sum_words_ok 2 a st h.1 (by omega) n (by omega)
    have g2 := hb b st h.2.1 (by omega) n (by omega)
    have g3 := hb c st h.2.2 (by omega) n (by omega)
    exact ⟨_, by simp (disch := first | assumption | ((try simp only [List.length_append, List.length_map, List.length_cons, List.length_nil, sl_add, sl_lit, List.size_toArray]); omega)) [f_deed_words, lp_deed_words_0, lb_deed_words_0, forL, encD, g, g2, g3, dw_ite, startS, exSs, exS, evE, evEs, evAnd, evOr, primF, views, view, allD, asB, asD, primD, int2, two, one, negD, lenD, tupD, lstD, intD, inD, strsOf, ixD, noneB, tyIs, slcF, slc0, slc1, slc2, slc3, cut, HT.sIx, setMany, setManyV, bindT, itemsOf, recvOk, isLst, isStr, eqF_str, eqF_int, mulOk_l, mulOk_mod, size_line', atIx_0, atIx_1, atIx_2, atIx_3, atIx_n1, atIx_n2, atIx_n3, atIx_n4, addD_int, addD_str, addD_list, addD_tuple]; exact rfl⟩
  | turns a b =>
    simp only [dw_turns, tot_app] at ht
    have l1 := tot_len (sumWords a)
    have l2 := tot_len (blockW b)
    refine Calls.mk0 (fn := f_deed_words) (k := 3 * d + 5) rfl rfl fun n hn => ?_
    have g := sum_words_ok 2 a st h.1 (by omega) n (by omega)
    have g2 := hb b st h.2 (by omega) n (by omega)
    exact ⟨_, by simp (disch := first | assumption | ((try simp only [List.length_append, List.length_map, List.length_cons, List.length_nil, sl_add, sl_lit, List.size_toArray]); omega)) [f_deed_words, lp_deed_words_0, lb_deed_words_0, forL, encD, g, g2, dw_turns, startS, exSs, exS, evE, evEs, evAnd, evOr, primF, views, view, allD, asB, asD, primD, int2, two, one, negD, lenD, tupD, lstD, intD, inD, strsOf, ixD, noneB, tyIs, slcF, slc0, slc1, slc2, slc3, cut, HT.sIx, setMany, setManyV, bindT, itemsOf, recvOk, isLst, isStr, eqF_str, eqF_int, mulOk_l, mulOk_mod, size_line', atIx_0, atIx_1, atIx_2, atIx_3, atIx_n1, atIx_n2, atIx_n3, atIx_n4, addD_int, addD_str, addD_list, addD_tuple]; exact rfl⟩
  | call x m as =>
    obtain ⟨h1, h2, h3⟩ := h
    simp only [dw_call, tot_app] at ht
    refine Calls.mk0 (fn := f_deed_words) (k := 3 * d + 5) rfl rfl fun n hn => ?_
    have key : ∃ ρ s', exS tab (callF tab n) lp_deed_words_1 [some (.d (encD (.call x m as))), some (.d (.str wCall)), some (.d (.list [.str wCall, .str x, .str m])), none, none] st = some (.next, ρ, s') ∧
        (∃ o4, ρ = [some (.d (encD (.call x m as))), some (.d (.str wCall)), some (.d (.list (([wCall, x, m] ++ as.flatMap sumWords).map .str))), none, o4] ∧ s' = st) := by
      unfold lp_deed_words_1
      refine ex_for encS as (fun done ρ s => ∃ o4, ρ = [some (.d (encD (.call x m as))), some (.d (.str wCall)), some (.d (.list (([wCall, x, m] ++ done.flatMap sumWords).map .str))), none, o4] ∧ s = st) (vs := [.d (.tuple (as.map encS))]) (ds := [.tuple (as.map encS)]) (by simp [encD, startS, exSs, exS, evE, evEs, evAnd, evOr, primF, views, view, allD, asB, asD, primD, addD, int2, two, one, negD, lenD, tupD, lstD, intD, strD, inD, strsOf, ixD, noneB, tyIs, slcF, slc0, slc1, slc2, slc3, cut, HT.sIx, setMany, setManyV, bindT, itemsOf, recvOk, isLst, isStr, eqF_str, eqF_int, mulOk_l, mulOk_mod, size_line', atIx_0, atIx_1, atIx_2, atIx_3, atIx_n1, atIx_n2, atIx_n3, atIx_n4]) rfl (by rw [items_tuple]) ⟨none, by simp, rfl⟩ ?_
      rintro done y rest ρ s he ⟨o4, rfl, rfl⟩
      refine ⟨_, rfl, ?_⟩
      have ht2 : tot (done.flatMap sumWords) + tot (sumWords y) ≤ 16000000 := by
        simp only [he, List.flatMap_append, List.flatMap_cons, tot_app] at ht
        omega
      have l1 := tot_len (done.flatMap sumWords)
      have l2 := tot_len (sumWords y)
      have g1 := sum_words_ok 1 y s (h3 y (by rw [he]; simp)) (by omega) n (by omega)
      exact ⟨_, _, by simp (disch := first | assumption | ((try simp only [List.length_append, List.length_map, List.length_cons, List.length_nil, sl_add, sl_lit, List.size_toArray]); omega)) [lb_deed_words_1, g1, startS, exSs, exS, evE, evEs, evAnd, evOr, primF, views, view, allD, asB, asD, primD, int2, two, one, negD, lenD, tupD, lstD, intD, inD, strsOf, ixD, noneB, tyIs, slcF, slc0, slc1, slc2, slc3, cut, HT.sIx, setMany, setManyV, bindT, itemsOf, recvOk, isLst, isStr, eqF_str, eqF_int, mulOk_l, mulOk_mod, size_line', atIx_0, atIx_1, atIx_2, atIx_3, atIx_n1, atIx_n2, atIx_n3, atIx_n4, addD_int, addD_str, addD_list, addD_tuple]; exact rfl, some (.d (encS y)), by simp, rfl⟩
    obtain ⟨ρ, s', e, o4, rfl, rfl⟩ := key
    simp only [encD, List.map_append, List.map_cons, List.map_nil, List.cons_append, List.nil_append] at e ⊢
    exact ⟨_, by simp (disch := first | assumption | ((try simp only [List.length_append, List.length_map, List.length_cons, List.length_nil, sl_add, sl_lit, List.size_toArray]); omega)) [f_deed_words, e, dw_call, startS, exSs, exS, evE, evEs, evAnd, evOr, primF, views, view, allD, asB, asD, primD, int2, two, one, negD, lenD, tupD, lstD, intD, inD, strsOf, ixD, noneB, tyIs, slcF, slc0, slc1, slc2, slc3, cut, HT.sIx, setMany, setManyV, bindT, itemsOf, recvOk, isLst, isStr, eqF_str, eqF_int, mulOk_l, mulOk_mod, size_line', atIx_0, atIx_1, atIx_2, atIx_3, atIx_n1, atIx_n2, atIx_n3, atIx_n4, addD_int, addD_str, addD_list, addD_tuple]; exact rfl⟩
  | try_ b cs l =>
    refine Calls.mk0 (fn := f_deed_words) (k := 3 * d + 5) rfl rfl fun n hn => ?_
    have g := try_words_ok hb b cs l st h ht n hn
    simp only [encD] at g ⊢
    exact ⟨_, by simp (disch := first | assumption | ((try simp only [List.length_append, List.length_map, List.length_cons, List.length_nil, sl_add, sl_lit, List.size_toArray]); omega)) [f_deed_words, g, startS, exSs, exS, evE, evEs, evAnd, evOr, primF, views, view, allD, asB, asD, primD, int2, two, one, negD, lenD, tupD, lstD, intD, inD, strsOf, ixD, noneB, tyIs, slcF, slc0, slc1, slc2, slc3, cut, HT.sIx, setMany, setManyV, bindT, itemsOf, recvOk, isLst, isStr, eqF_str, eqF_int, mulOk_l, mulOk_mod, size_line', atIx_0, atIx_1, atIx_2, atIx_3, atIx_n1, atIx_n2, atIx_n3, atIx_n4, addD_int, addD_str, addD_list, addD_tuple]; exact rfl⟩
theorem words_ok (kn : Known) : ∀ d, PB kn d
  | 0 => blk_words0 kn
  | d + 1 => blk_words1 (deed_words_ok (words_ok kn d))
end K03
namespace K03
open PySem Thr
def TB (kn : Known) (d : Nat) : Prop := ∀ (b : Ds) (st : Store), WfB kn d b → tot (blockW b) ≤ 16000000 → Calls tab (2 * d + 4) i_law_block_text [.d (.tuple (encDs b))] st (.d (.str (jn (blockW b))), st)
def TD (kn : Known) (d : Nat) : Prop := ∀ (x : Dd) (st : Store), WfD kn d x → tot (deedWords x) ≤ 16000000 → Calls tab (2 * d + 5) i_law_deed_text [.d (encD x)] st (.d (.str (jn (deedWords x))), st)
theorem blk_text {kn : Known} {d k : Nat} (hd : ∀ b : Ds, WfB kn d b → ∀ x ∈ b.to, ∀ st, tot (deedWords x) ≤ 16000000 → Calls tab k i_law_deed_text [.d (encD x)] st (.d (.str (jn (deedWords x))), st)) (b : Ds) (st : Store) (h : WfB kn d b) (ht : tot (blockW b) ≤ 16000000) :
    Calls tab (k + 1) i_law_block_text [.d (.tuple (encDs b))] st (.d (.str (jn (blockW b))), st) := by
  refine Calls.mk0 (fn := f_law_block_text) rfl rfl fun n hn => ?_
  have key : ∃ ρ s', exS tab (callF tab n) lp_law_block_text_0 [some (.d (.tuple (encDs b))), some (.d (.str wlb)), none] st = some (.next, ρ, s') ∧ (∃ o, ρ = [some (.d (.tuple (encDs b))), some (.d (.str (jn ([wlb] ++ b.to.flatMap fun d => deedWords d ++ [wsemi])))), o] ∧ s' = st) := by
    unfold lp_law_block_text_0
    refine ex_for encD b.to (fun done ρ s => ∃ o, ρ = [some (.d (.tuple (encDs b))), some (.d (.str (jn ([wlb] ++ done.flatMap fun d => deedWords d ++ [wsemi])))), o] ∧ s = st) (vs := [.d (.tuple (encDs b))]) (ds := [.tuple (encDs b)]) (by simp [startS, exSs, exS, evE, evEs, evAnd, evOr, primF, views, view, allD, asB, asD, primD, addD, int2, two, one, negD, lenD, tupD, lstD, intD, strD, inD, strsOf, ixD, noneB, tyIs, slcF, slc0, slc1, slc2, slc3, cut, HT.sIx, setMany, setManyV, bindT, itemsOf, recvOk, isLst, isStr, eqF_str, eqF_int, mulOk_l, mulOk_mod, size_line', atIx_0, atIx_1, atIx_2, atIx_3, atIx_n1, atIx_n2, atIx_n3, atIx_n4]) rfl (by rw [items_tuple, enc_to]) ⟨none, rfl, rfl⟩ ?_
    rintro done x rest ρ s he ⟨o, rfl, rfl⟩
    refine ⟨_, rfl, ?_⟩
    have hx : x ∈ b.to := by rw [he]; simp
    have ht2 : tot (done.flatMap fun d => deedWords d ++ [wsemi]) + tot (deedWords x) ≤ 16000000 := by
      simp only [blockW, itemsW_to, he, List.flatMap_append, List.flatMap_cons, tot_app] at ht
      omega
    have l1 := jn_len ([wlb] ++ done.flatMap fun d => deedWords d ++ [wsemi])
    rw [tot_app] at l1
    have l0 : tot [wlb] = 2 := rfl
    have l2 := jn_len (deedWords x)
    have l3 : wsp.length = 1 := rfl
    have l4 : (⟨#[32, 59]⟩ : Str).length = 2 := rfl
    have g1 := hd b h x hx s (by omega) n hn
    have e : [wlb] ++ (done ++ [x]).flatMap (fun d => deedWords d ++ [wsemi]) = ([wlb] ++ done.flatMap fun d => deedWords d ++ [wsemi]) ++ (deedWords x ++ [wsemi]) := by simp
    rw [e, ← jn_item (by simp)]
    generalize hw : jn ([wlb] ++ done.flatMap fun d => deedWords d ++ [wsemi]) = w at l1 ⊢
    exact ⟨_, _, by simp (disch := first | assumption | ((try simp only [List.length_append, List.length_map, List.length_cons, List.length_nil, sl_add, sl_lit, List.size_toArray]); omega)) [lb_law_block_text_0, g1, startS, exSs, exS, evE, evEs, evAnd, evOr, primF, views, view, allD, asB, asD, primD, int2, two, one, negD, lenD, tupD, lstD, intD, inD, strsOf, ixD, noneB, tyIs, slcF, slc0, slc1, slc2, slc3, cut, HT.sIx, setMany, setManyV, bindT, itemsOf, recvOk, isLst, isStr, eqF_str, eqF_int, mulOk_l, mulOk_mod, size_line', atIx_0, atIx_1, atIx_2, atIx_3, atIx_n1, atIx_n2, atIx_n3, atIx_n4, addD_int, addD_str, addD_list, addD_tuple] <;> exact rfl, some (.d (encD x)), rfl, rfl⟩
  obtain ⟨ρ, s', e, o, rfl, rfl⟩ := key
  have l1 := jn_len ([wlb] ++ b.to.flatMap fun d => deedWords d ++ [wsemi])
  have ht2 := ht
  simp only [blockW, itemsW_to, tot_app] at ht2
  rw [tot_app] at l1
  have l4 : (⟨#[32, 125]⟩ : Str).length = 2 := rfl
  rw [blockW, itemsW_to, ← jn_end (by simp)]
  generalize hw : jn ([wlb] ++ b.to.flatMap fun d => deedWords d ++ [wsemi]) = w at l1 e ⊢
  exact ⟨_, by simp (disch := first | assumption | ((try simp only [List.length_append, List.length_map, List.length_cons, List.length_nil, sl_add, sl_lit, List.size_toArray]); omega)) [f_law_block_text, e, startS, exSs, exS, evE, evEs, evAnd, evOr, primF, views, view, allD, asB, asD, primD, int2, two, one, negD, lenD, tupD, lstD, intD, inD, strsOf, ixD, noneB, tyIs, slcF, slc0, slc1, slc2, slc3, cut, HT.sIx, setMany, setManyV, bindT, itemsOf, recvOk, isLst, isStr, eqF_str, eqF_int, mulOk_l, mulOk_mod, size_line', atIx_0, atIx_1, atIx_2, atIx_3, atIx_n1, atIx_n2, atIx_n3, atIx_n4, addD_int, addD_str, addD_list, addD_tuple]; exact rfl⟩
theorem blk_text0 (kn : Known) : TB kn 0 := by
  intro b st h ht
  refine (blk_text (kn := kn) (d := 0) (k := 3) (fun b hb x hx => ?_) b st h ht)
  rcases wfB_to hb with rfl | ⟨q, _⟩
  · cases hx
  · omega
theorem blk_text1 {kn : Known} {d : Nat} (hd : TD kn d) : TB kn (d + 1) := by
  intro b st h ht
  refine (blk_text (kn := kn) (d := d + 1) (k := 2 * d + 5) (fun b hb x hx st ht => ?_) b st h ht)
  rcases wfB_to hb with rfl | ⟨q, _, q2⟩
  · cases hx
  · exact hd x st (q2 x hx) ht
theorem deed_text_ok {kn : Known} (hkn : ∀ p ∈ kn, p.2 ≤ 3) {d : Nat} (hb : TB kn d) : TD kn d := by
  intro x st h ht
  cases x with
  | note a =>
    simp only [deedWords, tot_app] at ht
    refine Calls.mk0 (fn := f_law_deed_text) (k := 2 * d + 4) rfl rfl fun n hn => ?_
    have g := sum_text_ok 2 a st h (by omega) n (by omega)
    have j := (jn_join [[wNote], sumWords a] (by simp [ne_sum]) (by simp only [List.flatten_cons, List.flatten_nil, List.append_nil, tot_app, tot_cons, tot_nil, List.length_cons, List.length_nil] at ht ⊢; omega)).2
    simp [jn_one, two] at j
    exact ⟨_, by simp (disch := first | assumption | ((try simp only [List.length_append, List.length_map, List.length_cons, List.length_nil, sl_add, sl_lit, List.size_toArray]); omega)) [f_law_deed_text, encD, g, j, deedWords, startS, exSs, exS, evE, evEs, evAnd, evOr, primF, views, view, allD, asB, asD, primD, int2, two, one, negD, lenD, tupD, lstD, intD, inD, strsOf, ixD, noneB, tyIs, slcF, slc0, slc1, slc2, slc3, cut, HT.sIx, setMany, setManyV, bindT, itemsOf, recvOk, isLst, isStr, eqF_str, eqF_int, mulOk_l, mulOk_mod, size_line', atIx_0, atIx_1, atIx_2, atIx_3, atIx_n1, atIx_n2, atIx_n3, atIx_n4, addD_int, addD_str, addD_list, addD_tuple]; exact rfl⟩
  | put x a =>
    simp only [deedWords, tot_app] at ht
    refine Calls.mk0 (fn := f_law_deed_text) (k := 2 * d + 4) rfl rfl fun n hn => ?_
    have g := sum_text_ok 2 a st h.2 (by omega) n (by omega)
    have j := (jn_join [[wPut], [x], sumWords a] (by simp [ne_sum]) (by simp only [List.flatten_cons, List.flatten_nil, List.append_nil, tot_app, tot_cons, tot_nil, List.length_cons, List.length_nil] at ht ⊢; omega)).2
    simp [jn_one, two] at j
    exact ⟨_, by simp (disch := first | assumption | ((try simp only [List.length_append, List.length_map, List.length_cons, List.length_nil, sl_add, sl_lit, List.size_toArray]); omega)) [f_law_deed_text, encD, g, j, deedWords, startS, exSs, exS, evE, evEs, evAnd, evOr, primF, views, view, allD, asB, asD, primD, int2, two, one, negD, lenD, tupD, lstD, intD, inD, strsOf, ixD, noneB, tyIs, slcF, slc0, slc1, slc2, slc3, cut, HT.sIx, setMany, setManyV, bindT, itemsOf, recvOk, isLst, isStr, eqF_str, eqF_int, mulOk_l, mulOk_mod, size_line', atIx_0, atIx_1, atIx_2, atIx_3, atIx_n1, atIx_n2, atIx_n3, atIx_n4, addD_int, addD_str, addD_list, addD_tuple]; exact rfl⟩
  | tell a =>
    simp only [deedWords, tot_app] at ht
    refine Calls.mk0 (fn := f_law_deed_text) (k := 2 * d + 4) rfl rfl fun n hn => ?_
    have g := sum_text_ok 2 a st h (by omega) n (by omega)
    have j := (jn_join [[wTell], sumWords a] (by simp [ne_sum]) (by simp only [List.flatten_cons, List.flatten_nil, List.append_nil, tot_app, tot_cons, tot_nil, List.length_cons, List.length_nil] at ht ⊢; omega)).2
    simp [jn_one, two] at j
    exact ⟨_, by simp (disch := first | assumption | ((try simp only [List.length_append, List.length_map, List.length_cons, List.length_nil, sl_add, sl_lit, List.size_toArray]); omega)) [f_law_deed_text, encD, g, j, deedWords, startS, exSs, exS, evE, evEs, evAnd, evOr, primF, views, view, allD, asB, asD, primD, int2, two, one, negD, lenD, tupD, lstD, intD, inD, strsOf, ixD, noneB, tyIs, slcF, slc0, slc1, slc2, slc3, cut, HT.sIx, setMany, setManyV, bindT, itemsOf, recvOk, isLst, isStr, eqF_str, eqF_int, mulOk_l, mulOk_mod, size_line', atIx_0, atIx_1, atIx_2, atIx_3, atIx_n1, atIx_n2, atIx_n3, atIx_n4, addD_int, addD_str, addD_list, addD_tuple]; exact rfl⟩
  | throw s a =>
    simp only [deedWords, tot_app] at ht
    refine Calls.mk0 (fn := f_law_deed_text) (k := 2 * d + 4) rfl rfl fun n hn => ?_
    have g := sum_text_ok 2 a st h.2 (by omega) n (by omega)
    have j := (jn_join [[wThrow], [s], sumWords a] (by simp [ne_sum]) (by simp only [List.flatten_cons, List.flatten_nil, List.append_nil, tot_app, tot_cons, tot_nil, List.length_cons, List.length_nil] at ht ⊢; omega)).2
    simp [jn_one, two] at j
    exact ⟨_, by simp (disch := first | assumption | ((try simp only [List.length_append, List.length_map, List.length_cons, List.length_nil, sl_add, sl_lit, List.size_toArray]); omega)) [f_law_deed_text, encD, g, j, deedWords, startS, exSs, exS, evE, evEs, evAnd, evOr, primF, views, view, allD, asB, asD, primD, int2, two, one, negD, lenD, tupD, lstD, intD, inD, strsOf, ixD, noneB, tyIs, slcF, slc0, slc1, slc2, slc3, cut, HT.sIx, setMany, setManyV, bindT, itemsOf, recvOk, isLst, isStr, eqF_str, eqF_int, mulOk_l, mulOk_mod, size_line', atIx_0, atIx_1, atIx_2, atIx_3, atIx_n1, atIx_n2, atIx_n3, atIx_n4, addD_int, addD_str, addD_list, addD_tuple]; exact rfl⟩
  | ite a b c =>
    simp only [dw_ite, tot_app] at ht
    refine Calls.mk0 (fn := f_law_deed_text) (k := 2 * d + 4) rfl rfl fun n hn => ?_
    have g := sum_text_ok 2 a st h.1 (by omega) n (by omega)
    have g2 := hb b st h.2.1 (by omega) n (by omega)
    have g3 := hb c st h.2.2 (by omega) n (by omega)
    have j := (jn_join [[wIf], sumWords a, blockW b, blockW c] (by simp [ne_sum, ne_blk]) (by simp only [List.flatten_cons, List.flatten_nil, List.append_nil, tot_app, tot_cons, tot_nil, List.length_cons, List.length_nil] at ht ⊢; omega)).1
    simp [jn_one, two] at j
    exact ⟨_, by simp (disch := first | assumption | ((try simp only [List.length_append, List.length_map, List.length_cons, List.length_nil, sl_add, sl_lit, List.size_toArray]); omega)) [f_law_deed_text, cp_law_deed_text_0, compL, encD, g, g2, g3, j, dw_ite, startS, exSs, exS, evE, evEs, evAnd, evOr, primF, views, view, allD, asB, asD, primD, int2, two, one, negD, lenD, tupD, lstD, intD, inD, strsOf, ixD, noneB, tyIs, slcF, slc0, slc1, slc2, slc3, cut, HT.sIx, setMany, setManyV, bindT, itemsOf, recvOk, isLst, isStr, eqF_str, eqF_int, mulOk_l, mulOk_mod, size_line', atIx_0, atIx_1, atIx_2, atIx_3, atIx_n1, atIx_n2, atIx_n3, atIx_n4, addD_int, addD_str, addD_list, addD_tuple]; exact rfl⟩
  | turns a b =>
    simp only [dw_turns, tot_app] at ht
    refine Calls.mk0 (fn := f_law_deed_text) (k := 2 * d + 4) rfl rfl fun n hn => ?_
    have g := sum_text_ok 2 a st h.1 (by omega) n (by omega)
    have g2 := hb b st h.2 (by omega) n (by omega)
    have j := (jn_join [[wTurns], sumWords a, blockW b] (by simp [ne_sum, ne_blk]) (by simp only [List.flatten_cons, List.flatten_nil, List.append_nil, tot_app, tot_cons, tot_nil, List.length_cons, List.length_nil] at ht ⊢; omega)).1
    simp [jn_one, two] at j
    exact ⟨_, by simp (disch := first | assumption | ((try simp only [List.length_append, List.length_map, List.length_cons, List.length_nil, sl_add, sl_lit, List.size_toArray]); omega)) [f_law_deed_text, cp_law_deed_text_0, compL, encD, g, g2, j, dw_turns, startS, exSs, exS, evE, evEs, evAnd, evOr, primF, views, view, allD, asB, asD, primD, int2, two, one, negD, lenD, tupD, lstD, intD, inD, strsOf, ixD, noneB, tyIs, slcF, slc0, slc1, slc2, slc3, cut, HT.sIx, setMany, setManyV, bindT, itemsOf, recvOk, isLst, isStr, eqF_str, eqF_int, mulOk_l, mulOk_mod, size_line', atIx_0, atIx_1, atIx_2, atIx_3, atIx_n1, atIx_n2, atIx_n3, atIx_n4, addD_int, addD_str, addD_list, addD_tuple]; exact rfl⟩
  | call x m as =>
    obtain ⟨h1, h2, h3⟩ := h
    simp only [dw_call, tot_app] at ht
    refine Calls.mk0 (fn := f_law_deed_text) (k := 2 * d + 4) rfl rfl fun n hn => ?_
    have key : evE tab (callF tab n) cp_law_deed_text_1 [some (.d (encD (.call x m as))), some (.d (.str wCall)), none, none, none, none, none] st = some (.d (.list (as.map fun a => .str (jn (sumWords a)))), st) := by
      refine ev_comp encS (fun a => .str (jn (sumWords a))) as (vs := [.d (.tuple (as.map encS))]) (ds := [.tuple (as.map encS)]) (by simp [encD, startS, exSs, exS, evE, evEs, evAnd, evOr, primF, views, view, allD, asB, asD, primD, addD, int2, two, one, negD, lenD, tupD, lstD, intD, strD, inD, strsOf, ixD, noneB, tyIs, slcF, slc0, slc1, slc2, slc3, cut, HT.sIx, setMany, setManyV, bindT, itemsOf, recvOk, isLst, isStr, eqF_str, eqF_int, mulOk_l, mulOk_mod, size_line', atIx_0, atIx_1, atIx_2, atIx_3, atIx_n1, atIx_n2, atIx_n3, atIx_n4]) rfl (by rw [items_tuple]) fun y hy => ?_
      have ht2 : tot (sumWords y) ≤ tot (as.flatMap sumWords) := by
        obtain ⟨l, r, rfl⟩ := List.append_of_mem hy
        simp only [List.flatMap_append, List.flatMap_cons, tot_app]; omega
      have g1 := sum_text_ok 1 y st (h3 y hy) (by omega) n (by omega)
      exact ⟨_, rfl, by simp [g1, startS, exSs, exS, evE, evEs, evAnd, evOr, primF, views, view, allD, asB, asD, primD, addD, int2, two, one, negD, lenD, tupD, lstD, intD, strD, inD, strsOf, ixD, noneB, tyIs, slcF, slc0, slc1, slc2, slc3, cut, HT.sIx, setMany, setManyV, bindT, itemsOf, recvOk, isLst, isStr, eqF_str, eqF_int, mulOk_l, mulOk_mod, size_line', atIx_0, atIx_1, atIx_2, atIx_3, atIx_n1, atIx_n2, atIx_n3, atIx_n4]⟩
    have lf : (as.map sumWords).flatten = as.flatMap sumWords := by rw [List.flatMap_def]
    have la : as.length ≤ 3 := hkn _ h2
    have j := (jn_join ([[wCall], [x], [m]] ++ as.map sumWords) (by intro l hl; simp at hl; rcases hl with rfl | rfl | rfl | ⟨a, _, rfl⟩ <;> first | exact ne_sum a | simp) (by simp only [List.flatten_append, lf, tot_app, List.length_append, List.length_map, List.flatten_cons, List.flatten_nil, List.length_cons, List.length_nil, tot_cons, tot_nil] at ht ⊢; omega)).2
    rw [List.flatten_append, lf] at j
    simp [jn_one, two, Function.comp_def] at j
    have la2 : as.length ≤ 16000000 := by omega
    simp only [encD] at key ⊢
    exact ⟨_, by simp (disch := first | assumption | ((try simp only [List.length_append, List.length_map, List.length_cons, List.length_nil, sl_add, sl_lit, List.size_toArray]); omega)) [f_law_deed_text, key, j, dw_call, Function.comp_def, startS, exSs, exS, evE, evEs, evAnd, evOr, primF, views, view, allD, asB, asD, primD, int2, two, one, negD, lenD, tupD, lstD, intD, inD, strsOf, ixD, noneB, tyIs, slcF, slc0, slc1, slc2, slc3, cut, HT.sIx, setMany, setManyV, bindT, itemsOf, recvOk, isLst, isStr, eqF_str, eqF_int, mulOk_l, mulOk_mod, size_line', atIx_0, atIx_1, atIx_2, atIx_3, atIx_n1, atIx_n2, atIx_n3, atIx_n4, addD_int, addD_str, addD_list, addD_tuple]; exact rfl⟩
  | try_ b cs l =>
    obtain ⟨h1, h2, h3, _, h5⟩ := h
    simp only [dw_try, tot_app] at ht
    refine Calls.mk0 (fn := f_law_deed_text) (k := 2 * d + 4) rfl rfl fun n hn => ?_
    have g1 := hb b st h1 (by omega) n hn
    have g2 := hb l st h2 (by omega) n hn
    have l2 := jn_len (blockW l)
    have lt : (⟨#[116, 114, 121, 32]⟩ : Str).length = 4 := rfl
    have l0 := jn_len (blockW b)
    have l9 : tot [wTry] = 4 := rfl
    have key : ∃ ρ s', exS tab (callF tab n) lp_law_deed_text_0 [some (.d (encD (.try_ b cs l))), some (.d (.str wTry)), some (.d (.str (jn ([wTry] ++ blockW b)))), none, none, none, none] st = some (.next, ρ, s') ∧
        (∃ o3 o4 o5, ρ = [some (.d (encD (.try_ b cs l))), some (.d (.str wTry)), some (.d (.str (jn ([wTry] ++ blockW b ++ cs.to.flatMap cW)))), o3, o4, o5, none] ∧ s' = st) := by
      unfold lp_law_deed_text_0
      refine ex_for encC cs.to (fun done ρ s => ∃ o3 o4 o5, ρ = [some (.d (encD (.try_ b cs l))), some (.d (.str wTry)), some (.d (.str (jn ([wTry] ++ blockW b ++ done.flatMap cW)))), o3, o4, o5, none] ∧ s = st) (vs := [.d (.tuple (encCs cs))]) (ds := [.tuple (encCs cs)]) (by simp [encD, startS, exSs, exS, evE, evEs, evAnd, evOr, primF, views, view, allD, asB, asD, primD, addD, int2, two, one, negD, lenD, tupD, lstD, intD, strD, inD, strsOf, ixD, noneB, tyIs, slcF, slc0, slc1, slc2, slc3, cut, HT.sIx, setMany, setManyV, bindT, itemsOf, recvOk, isLst, isStr, eqF_str, eqF_int, mulOk_l, mulOk_mod, size_line', atIx_0, atIx_1, atIx_2, atIx_3, atIx_n1, atIx_n2, atIx_n3, atIx_n4]) rfl (by rw [items_tuple, encC_to]) ⟨none, none, none, by simp, rfl⟩ ?_
      rintro done x rest ρ s he ⟨o3, o4, o5, rfl, rfl⟩
      refine ⟨_, rfl, ?_⟩
      have hx : x ∈ cs.to := by rw [he]; simp
      have ht2 : tot [wTry] + tot (blockW b) + tot (done.flatMap cW) + tot (cW x) ≤ 16000000 := by
        simp only [he, List.flatMap_append, List.flatMap_cons, tot_app] at ht
        omega
      have ht3 := ht2
      simp only [cW, tot_app, tot_cons] at ht3
      have l1 := jn_len ([wTry] ++ blockW b ++ done.flatMap cW)
      simp only [tot_app] at l1
      have l2 := jn_len (blockW x.b)
      have l5 : (⟨#[32, 99, 97, 116, 99, 104, 32]⟩ : Str).length = 7 := rfl
      have l6 : (⟨#[32]⟩ : Str).length = 1 := rfl
      have g1 := hb x.b s (wfCs_to h3 x hx).2.2 (by omega) n hn
      have e : [wTry] ++ blockW b ++ (done ++ [x]).flatMap cW = ([wTry] ++ blockW b ++ done.flatMap cW) ++ cW x := by simp
      rw [e, ← jn_catch (by simp)]
      generalize hw : jn ([wTry] ++ blockW b ++ done.flatMap cW) = w at l1 ⊢
      exact ⟨_, _, by simp (disch := first | assumption | ((try simp only [List.length_append, List.length_map, List.length_cons, List.length_nil, sl_add, sl_lit, List.size_toArray]); omega)) [lb_law_deed_text_0, g1, startS, exSs, exS, evE, evEs, evAnd, evOr, primF, views, view, allD, asB, asD, primD, int2, two, one, negD, lenD, tupD, lstD, intD, inD, strsOf, ixD, noneB, tyIs, slcF, slc0, slc1, slc2, slc3, cut, HT.sIx, setMany, setManyV, bindT, itemsOf, recvOk, isLst, isStr, eqF_str, eqF_int, mulOk_l, mulOk_mod, size_line', atIx_0, atIx_1, atIx_2, atIx_3, atIx_n1, atIx_n2, atIx_n3, atIx_n4, addD_int, addD_str, addD_list, addD_tuple] <;> exact rfl, some (.d (.str x.s)), some (.d (.str x.x)), some (.d (.tuple (encDs x.b))), rfl, rfl⟩
    obtain ⟨ρ, s', e, o3, o4, o5, rfl, rfl⟩ := key
    have l1 := jn_len ([wTry] ++ blockW b ++ cs.to.flatMap cW)
    simp only [tot_app] at l1
    have l5 : (⟨#[32, 108, 97, 115, 116, 32]⟩ : Str).length = 6 := rfl
    have l8 : tot [wLast] = 5 := rfl
    rw [dw_try, List.append_assoc _ [wLast], ← jn_last (by simp)]
    generalize hw : jn ([wTry] ++ blockW b ++ cs.to.flatMap cW) = w at l1 e ⊢
    rw [← jn_try] at e
    simp only [encD] at e ⊢
    exact ⟨_, by simp (disch := first | assumption | ((try simp only [List.length_append, List.length_map, List.length_cons, List.length_nil, sl_add, sl_lit, List.size_toArray]); omega)) [f_law_deed_text, e, g1, g2, startS, exSs, exS, evE, evEs, evAnd, evOr, primF, views, view, allD, asB, asD, primD, int2, two, one, negD, lenD, tupD, lstD, intD, inD, strsOf, ixD, noneB, tyIs, slcF, slc0, slc1, slc2, slc3, cut, HT.sIx, setMany, setManyV, bindT, itemsOf, recvOk, isLst, isStr, eqF_str, eqF_int, mulOk_l, mulOk_mod, size_line', atIx_0, atIx_1, atIx_2, atIx_3, atIx_n1, atIx_n2, atIx_n3, atIx_n4, addD_int, addD_str, addD_list, addD_tuple]; exact rfl⟩
theorem text_ok (kn : Known) (hkn : ∀ p ∈ kn, p.2 ≤ 3) : ∀ d, TB kn d
  | 0 => blk_text0 kn
  | d + 1 => blk_text1 (deed_text_ok hkn (text_ok kn hkn d))
end K03
namespace K03
open PySem Thr
theorem maker_words_ok (m : Mk) (st : Store) (h : MkOk m) : Calls tab 17 i_maker_words [.d (encM m)] st (.d (.list ((makerW m).map .str)), st) := by
  obtain ⟨t1, t2, t3⟩ := tot_maker h
  obtain ⟨h1, h2, h3, kn, d, hk, hd, hb⟩ := h
  have l1 := tot_len (blockW m.block)
  refine Calls.mk0 (fn := f_maker_words) (k := 16) rfl rfl fun n hn => ?_
  have g := words_ok kn d m.block st hb (by omega) n (by omega)
  exact ⟨_, by simp (disch := first | assumption | ((try simp only [List.length_append, List.length_map, List.length_cons, List.length_nil, sl_add, sl_lit, List.size_toArray]); omega)) [f_maker_words, encM, makerW, g, startS, exSs, exS, evE, evEs, evAnd, evOr, primF, views, view, allD, asB, asD, primD, int2, two, one, negD, lenD, tupD, lstD, intD, inD, strsOf, ixD, noneB, tyIs, slcF, slc0, slc1, slc2, slc3, cut, HT.sIx, setMany, setManyV, bindT, itemsOf, recvOk, isLst, isStr, eqF_str, eqF_int, mulOk_l, mulOk_mod, size_line', atIx_0, atIx_1, atIx_2, atIx_3, atIx_n1, atIx_n2, atIx_n3, atIx_n4, addD_int, addD_str, addD_list, addD_tuple]; exact rfl⟩
theorem written_ok (ms : List Mk) (st : Store) (hl : ms.length ≤ 4) (h : ∀ m ∈ ms, MkOk m) : Calls tab 18 i_written [.d (.tuple (ms.map encM))] st (.d (.str (jn (bookW ms))), st) := by
  have ht := tot_book hl h
  refine Calls.mk0 (fn := f_written) (k := 17) rfl rfl fun n hn => ?_
  have key : ∃ ρ s', exS tab (callF tab n) lp_written_0 [some (.d (.tuple (ms.map encM))), some (.d (.list [])), none] st = some (.next, ρ, s') ∧ (∃ o, ρ = [some (.d (.tuple (ms.map encM))), some (.d (.list ((bookW ms).map .str))), o] ∧ s' = st) := by
    unfold lp_written_0
    refine ex_for encM ms (fun done ρ s => ∃ o, ρ = [some (.d (.tuple (ms.map encM))), some (.d (.list ((bookW done).map .str))), o] ∧ s = st) (vs := [.d (.tuple (ms.map encM))]) (ds := [.tuple (ms.map encM)]) (by simp [startS, exSs, exS, evE, evEs, evAnd, evOr, primF, views, view, allD, asB, asD, primD, addD, int2, two, one, negD, lenD, tupD, lstD, intD, strD, inD, strsOf, ixD, noneB, tyIs, slcF, slc0, slc1, slc2, slc3, cut, HT.sIx, setMany, setManyV, bindT, itemsOf, recvOk, isLst, isStr, eqF_str, eqF_int, mulOk_l, mulOk_mod, size_line', atIx_0, atIx_1, atIx_2, atIx_3, atIx_n1, atIx_n2, atIx_n3, atIx_n4]) rfl (by rw [items_tuple]) ⟨none, rfl, rfl⟩ ?_
    rintro done x rest ρ s he ⟨o, rfl, rfl⟩
    refine ⟨_, rfl, ?_⟩
    have ht2 : tot (bookW done) + tot (makerW x) ≤ 12000000 := by
      simp only [bookW, he, List.flatMap_append, List.flatMap_cons, tot_app] at ht ⊢
      omega
    have l1 := tot_len (bookW done)
    have l2 := tot_len (makerW x)
    have g1 := maker_words_ok x s (h x (by rw [he]; simp)) n hn
    exact ⟨_, _, by simp (disch := first | assumption | ((try simp only [List.length_append, List.length_map, List.length_cons, List.length_nil, sl_add, sl_lit, List.size_toArray]); omega)) [lb_written_0, g1, startS, exSs, exS, evE, evEs, evAnd, evOr, primF, views, view, allD, asB, asD, primD, int2, two, one, negD, lenD, tupD, lstD, intD, inD, strsOf, ixD, noneB, tyIs, slcF, slc0, slc1, slc2, slc3, cut, HT.sIx, setMany, setManyV, bindT, itemsOf, recvOk, isLst, isStr, eqF_str, eqF_int, mulOk_l, mulOk_mod, size_line', atIx_0, atIx_1, atIx_2, atIx_3, atIx_n1, atIx_n2, atIx_n3, atIx_n4, addD_int, addD_str, addD_list, addD_tuple]; exact rfl, some (.d (encM x)), by simp [bookW], rfl⟩
  obtain ⟨ρ, s', e, o, rfl, rfl⟩ := key
  have j := join_list (ws := bookW ms) (by omega)
  exact ⟨_, by simp (disch := first | assumption | ((try simp only [List.length_append, List.length_map, List.length_cons, List.length_nil, sl_add, sl_lit, List.size_toArray]); omega)) [f_written, e, j, startS, exSs, exS, evE, evEs, evAnd, evOr, primF, views, view, allD, asB, asD, primD, int2, two, one, negD, lenD, tupD, lstD, intD, inD, strsOf, ixD, noneB, tyIs, slcF, slc0, slc1, slc2, slc3, cut, HT.sIx, setMany, setManyV, bindT, itemsOf, recvOk, isLst, isStr, eqF_str, eqF_int, mulOk_l, mulOk_mod, size_line', atIx_0, atIx_1, atIx_2, atIx_3, atIx_n1, atIx_n2, atIx_n3, atIx_n4, addD_int, addD_str, addD_list, addD_tuple]; exact rfl⟩
theorem law_text_ok (ms : List Mk) (st : Store) (hl : ms.length ≤ 4) (h : ∀ m ∈ ms, MkOk m) : Calls tab 18 i_law_text [.d (.tuple (ms.map encM))] st (.d (.str (jn (bookW ms))), st) := by
  have ht := tot_book hl h
  refine Calls.mk (fn := f_law_text) (k := 17) rfl rfl fun n hn => ?_
  have key : ∃ ρ s', exS tab (callF tab n) lp_law_text_0 [some (.d (.tuple (ms.map encM))), some (.ref st.length), none, none, none] (st ++ [.lst []]) = some (.next, ρ, s') ∧ (∃ o2 o3 o4, ρ = [some (.d (.tuple (ms.map encM))), some (.ref st.length), o2, o3, o4] ∧ s' = st ++ [.lst (ms.map fun m => .str (jn (makerW m)))]) := by
    unfold lp_law_text_0
    refine ex_for (st1 := st ++ [.lst []]) (T := tab) encM ms (fun done ρ s => ∃ o2 o3 o4, ρ = [some (.d (.tuple (ms.map encM))), some (.ref st.length), o2, o3, o4] ∧ s = st ++ [.lst (done.map fun m => .str (jn (makerW m)))]) (vs := [.d (.tuple (ms.map encM))]) (ds := [.tuple (ms.map encM)]) ?_ rfl (by rw [items_tuple]) ⟨none, none, none, rfl, rfl⟩ ?_
    · simp [startS, exSs, exS, evE, evEs, evAnd, evOr, primF, views, view, allD, asB, asD, primD, addD, int2, two, one, negD, lenD, tupD, lstD, intD, strD, inD, strsOf, ixD, noneB, tyIs, slcF, slc0, slc1, slc2, slc3, cut, HT.sIx, setMany, setManyV, bindT, itemsOf, recvOk, isLst, isStr, eqF_str, eqF_int, mulOk_l, mulOk_mod, size_line', atIx_0, atIx_1, atIx_2, atIx_3, atIx_n1, atIx_n2, atIx_n3, atIx_n4]
    rintro done x rest ρ s he ⟨o2, o3, o4, rfl, rfl⟩
    refine ⟨_, rfl, ?_⟩
    have hx := h x (by rw [he]; simp)
    obtain ⟨t1, t2, t3⟩ := tot_maker hx
    obtain ⟨h1, h2, h3, kn, d, hk, hd, hb⟩ := hx
    have g1 := text_ok kn (fun p hp => (hk p hp).2) d x.block (st ++ [.lst (done.map fun m => .str (jn (makerW m)))]) hb (by omega) n (by omega)
    have hfl : (x.names.map fun w => [w]).flatten = x.names := by
      induction x.names with
      | nil => rfl
      | cons w r ih => simp [ih]
    have j := (jn_join ([[wMaker], [x.name], [wlp]] ++ x.names.map (fun w => [w]) ++ [[wrp], blockW x.block]) (by intro l hl; simp at hl; rcases hl with rfl | rfl | rfl | ⟨a, _, rfl⟩ | rfl | rfl <;> first | exact ne_blk _ | simp)
      (by simp only [makerW, List.flatten_append, hfl, tot_app, List.length_append, List.length_map, List.flatten_cons, List.flatten_nil, List.append_nil, List.length_cons, List.length_nil, tot_cons, tot_nil] at t3 ⊢; omega)).1
    have hfm : ([[wMaker], [x.name], [wlp]] ++ x.names.map (fun w => [w]) ++ [[wrp], blockW x.block]).flatten = makerW x := by
      simp [List.flatten_append, hfl, makerW]
    rw [hfm] at j
    simp [jn_one, two, Function.comp_def] at j
    have hd4 : done.length < 16777216 := by rw [he, List.length_append] at hl; omega
    exact ⟨_, _, by simp (disch := first | assumption | ((try simp only [List.length_append, List.length_map, List.length_cons, List.length_nil, sl_add, sl_lit, List.size_toArray]); omega)) [lb_law_text_0, g1, j, get_top, set_top, hd4, startS, exSs, exS, evE, evEs, evAnd, evOr, primF, views, view, allD, asB, asD, primD, int2, two, one, negD, lenD, tupD, lstD, intD, inD, strsOf, ixD, noneB, tyIs, slcF, slc0, slc1, slc2, slc3, cut, HT.sIx, setMany, setManyV, bindT, itemsOf, recvOk, isLst, isStr, eqF_str, eqF_int, mulOk_l, mulOk_mod, size_line', atIx_0, atIx_1, atIx_2, atIx_3, atIx_n1, atIx_n2, atIx_n3, atIx_n4, addD_int, addD_str, addD_list, addD_tuple]; exact rfl, some (.d (.str x.name)), some (.d (.tuple (x.names.map .str))), some (.d (.tuple (encDs x.block))), rfl, by simp⟩
  obtain ⟨ρ, s', e, o2, o3, o4, rfl, rfl⟩ := key
  have j := (jn_join (ms.map makerW) (by intro l hl; simp at hl; obtain ⟨a, _, rfl⟩ := hl; exact ne_maker a) (by rw [← List.flatMap_def, List.length_map]; show tot (bookW ms) + _ ≤ _; omega)).1
  rw [← List.flatMap_def] at j
  change joinD _ _ = some (.str (jn (bookW ms))) at j
  simp only [List.map_map, Function.comp_def] at j
  exact ⟨_, [.lst (ms.map fun m => .str (jn (makerW m)))], by simp (disch := first | assumption | ((try simp only [List.length_append, List.length_map, List.length_cons, List.length_nil, sl_add, sl_lit, List.size_toArray]); omega)) [f_law_text, e, j, get_top, startS, exSs, exS, evE, evEs, evAnd, evOr, primF, views, view, allD, asB, asD, primD, int2, two, one, negD, lenD, tupD, lstD, intD, inD, strsOf, ixD, noneB, tyIs, slcF, slc0, slc1, slc2, slc3, cut, HT.sIx, setMany, setManyV, bindT, itemsOf, recvOk, isLst, isStr, eqF_str, eqF_int, mulOk_l, mulOk_mod, size_line', atIx_0, atIx_1, atIx_2, atIx_3, atIx_n1, atIx_n2, atIx_n3, atIx_n4, addD_int, addD_str, addD_list, addD_tuple]; exact rfl⟩
theorem law_true (ns : List Int) (hns : ns.length ≤ 63) : ∃ st, callF tab 200 i_law [.d (.list (ns.map .int))] [] = some (.d (.bool true), st) := by
  obtain ⟨m, hm, c1⟩ := mixed_ok ns 0 (by decide) []
  obtain ⟨ms, hw, _, c2⟩ := book_ok m [] hm
  obtain ⟨hl, _, hms⟩ := hw.mk_ok
  have c3 := written_ok ms [] hl hms
  have c4 := law_text_ok ms [] hl hms
  have all : Calls tab 19 i_law [.d (.list (ns.map .int))] [] (.d (.bool true), []) := by
    refine Calls.mk0 (fn := f_law) (k := 18) rfl rfl fun n hn => ?_
    have g1 := c1 n (by omega)
    have g2 := c2 n (by omega)
    have g3 := c3 n (by omega)
    have g4 := c4 n (by omega)
    exact ⟨_, by simp [f_law, g1, g2, g3, g4, startS, exSs, exS, evE, evEs, evAnd, evOr, primF, views, view, allD, asB, asD, primD, addD, int2, two, one, negD, lenD, tupD, lstD, intD, strD, inD, strsOf, ixD, noneB, tyIs, slcF, slc0, slc1, slc2, slc3, cut, HT.sIx, setMany, setManyV, bindT, itemsOf, recvOk, isLst, isStr, eqF_str, eqF_int, mulOk_l, mulOk_mod, size_line', atIx_0, atIx_1, atIx_2, atIx_3, atIx_n1, atIx_n2, atIx_n3, atIx_n4]; exact rfl⟩
  exact ⟨_, all 200 (by omega)⟩
end K03
namespace K03
open PySem Thr PyProof.Rows L2
def gs : Gs := ⟨[], [("sum_words", 0), ("try_words", 1), ("deed_words", 2), ("block_words", 3), ("maker_words", 4), ("written", 5), ("_law_cell_at", 6), ("_law_mixed", 7), ("_law_drawn", 8), ("_law_sum", 9), ("_law_try", 10), ("_law_deed", 11), ("_law_block", 12), ("_law_book", 13), ("_law_sum_text", 14), ("_law_block_text", 15), ("_law_deed_text", 16), ("_law_text", 17), ("law", 18)], ["enumerate", "isinstance", "len", "list", "range", "str", "tuple"]⟩
def top (i : Nat) : Stmt := PySem.Challenge.pw_throwless_k03_written.main.body.getD i (.Pass ⟨0, 0, 0, 0⟩)
theorem cf_sum_words : chkFn gs ["thing"] ["thing"] (defBody (top 1)) (defScope (top 1)) f_sum_words = true := by decide +kernel
theorem cf_try_words : chkFn gs ["deed", "found", "sort", "name", "block"] ["deed"] (defBody (top 2)) (defScope (top 2)) f_try_words = true := by decide +kernel
theorem cf_deed_words : chkFn gs ["deed", "word", "found", "block", "part"] ["deed"] (defBody (top 3)) (defScope (top 3)) f_deed_words = true := by decide +kernel
theorem cf_block_words : chkFn gs ["block", "found", "deed"] ["block"] (defBody (top 4)) (defScope (top 4)) f_block_words = true := by decide +kernel
theorem cf_maker_words : chkFn gs ["maker"] ["maker"] (defBody (top 5)) (defScope (top 5)) f_maker_words = true := by decide +kernel
theorem cf_written : chkFn gs ["book", "found", "maker"] ["book"] (defBody (top 6)) (defScope (top 6)) f_written = true := by decide +kernel
theorem cf_law_cell_at : chkFn gs ["_law_script", "_law_k"] ["_law_script", "_law_k"] (defBody (top 8)) (defScope (top 8)) f_law_cell_at = true := by decide +kernel
theorem cf_law_mixed : chkFn gs ["_law_script", "_law_k", "_law_drawn_here"] ["_law_script", "_law_k"] (defBody (top 9)) (defScope (top 9)) f_law_mixed = true := by decide +kernel
theorem cf_law_drawn : chkFn gs ["_law_number", "_law_k", "_law_drawn_here"] ["_law_number", "_law_k"] (defBody (top 10)) (defScope (top 10)) f_law_drawn = true := by decide +kernel
theorem cf_law_sum : chkFn gs ["_law_number", "_law_deep", "_law_word", "_law_some"] ["_law_number", "_law_deep"] (defBody (top 11)) (defScope (top 11)) f_law_sum = true := by decide +kernel
theorem cf_law_try : chkFn gs ["_law_number", "_law_known", "_law_deep", "_law_catches", "_law_last", "_law_k", "_law_sort", "_law_block_here"] ["_law_number", "_law_known", "_law_deep"] (defBody (top 12)) (defScope (top 12)) f_law_try = true := by decide +kernel
theorem cf_law_deed : chkFn gs ["_law_number", "_law_known", "_law_deep", "_law_kind", "_law_name", "_law_amount", "_law_maker", "_law_many", "_law_blocks", "_law_k"] ["_law_number", "_law_known", "_law_deep"] (defBody (top 13)) (defScope (top 13)) f_law_deed = true := by decide +kernel
theorem cf_law_block : chkFn gs ["_law_number", "_law_known", "_law_deep", "_law_many", "_law_k"] ["_law_number", "_law_known", "_law_deep"] (defBody (top 14)) (defScope (top 14)) f_law_block = true := by decide +kernel
theorem cf_law_book : chkFn gs ["_law_number", "_law_known", "_law_found", "_law_k", "_law_drawn_here", "_law_names", "_law_name", "_law_block_here"] ["_law_number"] (defBody (top 15)) (defScope (top 15)) f_law_book = true := by decide +kernel
theorem cf_law_sum_text : chkFn gs ["_law_thing"] ["_law_thing"] (defBody (top 17)) (defScope (top 17)) f_law_sum_text = true := by decide +kernel
theorem cf_law_block_text : chkFn gs ["_law_block_here", "_law_found", "_law_deed_here"] ["_law_block_here"] (defBody (top 18)) (defScope (top 18)) f_law_block_text = true := by decide +kernel
theorem cf_law_deed_text : chkFn gs ["_law_deed_here", "_law_word", "_law_found", "_law_sort", "_law_name", "_law_block_here", "_law_part"] ["_law_deed_here"] (defBody (top 19)) (defScope (top 19)) f_law_deed_text = true := by decide +kernel
theorem cf_law_text : chkFn gs ["_law_book_here", "_law_found", "_law_name", "_law_names", "_law_block_here"] ["_law_book_here"] (defBody (top 20)) (defScope (top 20)) f_law_text = true := by decide +kernel
theorem cf_law : chkFn gs ["_law_script", "_law_book_here"] ["_law_script"] (defBody (top 21)) (defScope (top 21)) f_law = true := by decide +kernel
theorem all_mk {l : PySem.W.OpenLaw} {w : World} {K : PySem.W.Frag} {h : Heap} {mg : Str → Option Value} {fa : Addr} (X : K.In h) (G : h.Ns mainGlobals mg) (hfa : mg "law" = some (.ref fa))
  (d0 : FunAt K "sum_words" (top 1))
  (d1 : FunAt K "try_words" (top 2))
  (d2 : FunAt K "deed_words" (top 3))
  (d3 : FunAt K "block_words" (top 4))
  (d4 : FunAt K "maker_words" (top 5))
  (d5 : FunAt K "written" (top 6))
  (d6 : FunAt K "_law_cell_at" (top 8))
  (d7 : FunAt K "_law_mixed" (top 9))
  (d8 : FunAt K "_law_drawn" (top 10))
  (d9 : FunAt K "_law_sum" (top 11))
  (d10 : FunAt K "_law_try" (top 12))
  (d11 : FunAt K "_law_deed" (top 13))
  (d12 : FunAt K "_law_block" (top 14))
  (d13 : FunAt K "_law_book" (top 15))
  (d14 : FunAt K "_law_sum_text" (top 17))
  (d15 : FunAt K "_law_block_text" (top 18))
  (d16 : FunAt K "_law_deed_text" (top 19))
  (d17 : FunAt K "_law_text" (top 20))
  (d18 : FunAt K "law" (top 21))
  (b0 : PySem.W.nsIn K mainGlobals "enumerate" = some none)
  (b1 : PySem.W.nsIn K mainGlobals "isinstance" = some none)
  (b2 : PySem.W.nsIn K mainGlobals "len" = some none)
  (b3 : PySem.W.nsIn K mainGlobals "list" = some none)
  (b4 : PySem.W.nsIn K mainGlobals "range" = some none)
  (b5 : PySem.W.nsIn K mainGlobals "str" = some none)
  (b6 : PySem.W.nsIn K mainGlobals "tuple" = some none)
  (pure : ∀ ns : List Int, ns.length ≤ 63 → ∃ st, callF tab 200 i_law [.d (.list (ns.map .int))] [] = some (.d (.bool true), st)) :
  ∃ fd : FuncData, (∀ (s : Shared) (v : Value), BindsTo s fd ⟨[v], []⟩ [("_law_script", v)]) ∧ ∀ base : Heap, K.In base → base.Ns mainGlobals mg → FnOk l.prog w K mg base CX0 200 fa fd ["_law_script"] (spLaw K) := by
  obtain ⟨a0, e0, m0, q0, r0⟩ := d0.def (ps := ["thing"]) X G (fun _ _ _ _ _ _ us hl => match us, hl with | [_], _ => rfl) ⟨["thing"], cf_sum_words⟩
  obtain ⟨a1, e1, m1, q1, r1⟩ := d1.def (ps := ["deed"]) X G (fun _ _ _ _ _ _ us hl => match us, hl with | [_], _ => rfl) ⟨["deed", "found", "sort", "name", "block"], cf_try_words⟩
  obtain ⟨a2, e2, m2, q2, r2⟩ := d2.def (ps := ["deed"]) X G (fun _ _ _ _ _ _ us hl => match us, hl with | [_], _ => rfl) ⟨["deed", "word", "found", "block", "part"], cf_deed_words⟩
  obtain ⟨a3, e3, m3, q3, r3⟩ := d3.def (ps := ["block"]) X G (fun _ _ _ _ _ _ us hl => match us, hl with | [_], _ => rfl) ⟨["block", "found", "deed"], cf_block_words⟩
  obtain ⟨a4, e4, m4, q4, r4⟩ := d4.def (ps := ["maker"]) X G (fun _ _ _ _ _ _ us hl => match us, hl with | [_], _ => rfl) ⟨["maker"], cf_maker_words⟩
  obtain ⟨a5, e5, m5, q5, r5⟩ := d5.def (ps := ["book"]) X G (fun _ _ _ _ _ _ us hl => match us, hl with | [_], _ => rfl) ⟨["book", "found", "maker"], cf_written⟩
  obtain ⟨a6, e6, m6, q6, r6⟩ := d6.def (ps := ["_law_script", "_law_k"]) X G (fun _ _ _ _ _ _ us hl => match us, hl with | [_, _], _ => rfl) ⟨["_law_script", "_law_k"], cf_law_cell_at⟩
  obtain ⟨a7, e7, m7, q7, r7⟩ := d7.def (ps := ["_law_script", "_law_k"]) X G (fun _ _ _ _ _ _ us hl => match us, hl with | [_, _], _ => rfl) ⟨["_law_script", "_law_k", "_law_drawn_here"], cf_law_mixed⟩
  obtain ⟨a8, e8, m8, q8, r8⟩ := d8.def (ps := ["_law_number", "_law_k"]) X G (fun _ _ _ _ _ _ us hl => match us, hl with | [_, _], _ => rfl) ⟨["_law_number", "_law_k", "_law_drawn_here"], cf_law_drawn⟩
  obtain ⟨a9, e9, m9, q9, r9⟩ := d9.def (ps := ["_law_number", "_law_deep"]) X G (fun _ _ _ _ _ _ us hl => match us, hl with | [_, _], _ => rfl) ⟨["_law_number", "_law_deep", "_law_word", "_law_some"], cf_law_sum⟩
  obtain ⟨a10, e10, m10, q10, r10⟩ := d10.def (ps := ["_law_number", "_law_known", "_law_deep"]) X G (fun _ _ _ _ _ _ us hl => match us, hl with | [_, _, _], _ => rfl) ⟨["_law_number", "_law_known", "_law_deep", "_law_catches", "_law_last", "_law_k", "_law_sort", "_law_block_here"], cf_law_try⟩
  obtain ⟨a11, e11, m11, q11, r11⟩ := d11.def (ps := ["_law_number", "_law_known", "_law_deep"]) X G (fun _ _ _ _ _ _ us hl => match us, hl with | [_, _, _], _ => rfl) ⟨["_law_number", "_law_known", "_law_deep", "_law_kind", "_law_name", "_law_amount", "_law_maker", "_law_many", "_law_blocks", "_law_k"], cf_law_deed⟩
  obtain ⟨a12, e12, m12, q12, r12⟩ := d12.def (ps := ["_law_number", "_law_known", "_law_deep"]) X G (fun _ _ _ _ _ _ us hl => match us, hl with | [_, _, _], _ => rfl) ⟨["_law_number", "_law_known", "_law_deep", "_law_many", "_law_k"], cf_law_block⟩
  obtain ⟨a13, e13, m13, q13, r13⟩ := d13.def (ps := ["_law_number"]) X G (fun _ _ _ _ _ _ us hl => match us, hl with | [_], _ => rfl) ⟨["_law_number", "_law_known", "_law_found", "_law_k", "_law_drawn_here", "_law_names", "_law_name", "_law_block_here"], cf_law_book⟩
  obtain ⟨a14, e14, m14, q14, r14⟩ := d14.def (ps := ["_law_thing"]) X G (fun _ _ _ _ _ _ us hl => match us, hl with | [_], _ => rfl) ⟨["_law_thing"], cf_law_sum_text⟩
  obtain ⟨a15, e15, m15, q15, r15⟩ := d15.def (ps := ["_law_block_here"]) X G (fun _ _ _ _ _ _ us hl => match us, hl with | [_], _ => rfl) ⟨["_law_block_here", "_law_found", "_law_deed_here"], cf_law_block_text⟩
  obtain ⟨a16, e16, m16, q16, r16⟩ := d16.def (ps := ["_law_deed_here"]) X G (fun _ _ _ _ _ _ us hl => match us, hl with | [_], _ => rfl) ⟨["_law_deed_here", "_law_word", "_law_found", "_law_sort", "_law_name", "_law_block_here", "_law_part"], cf_law_deed_text⟩
  obtain ⟨a17, e17, m17, q17, r17⟩ := d17.def (ps := ["_law_book_here"]) X G (fun _ _ _ _ _ _ us hl => match us, hl with | [_], _ => rfl) ⟨["_law_book_here", "_law_found", "_law_name", "_law_names", "_law_block_here"], cf_law_text⟩
  obtain ⟨a18, e18, m18, q18, r18⟩ := d18.def (ps := ["_law_script"]) X G (fun _ _ _ _ _ _ us hl => match us, hl with | [_], _ => rfl) ⟨["_law_script", "_law_book_here"], cf_law⟩
  have tok : TabOk gs tab K mg := by
    refine ⟨con_ok (cs := gs.cn) (ds := tab.consts) (.nil), fns_ok (L := gs.fn) ⟨⟨a0, e0, _, _, m0, rfl, q0⟩, ⟨a1, e1, _, _, m1, rfl, q1⟩, ⟨a2, e2, _, _, m2, rfl, q2⟩, ⟨a3, e3, _, _, m3, rfl, q3⟩, ⟨a4, e4, _, _, m4, rfl, q4⟩, ⟨a5, e5, _, _, m5, rfl, q5⟩, ⟨a6, e6, _, _, m6, rfl, q6⟩, ⟨a7, e7, _, _, m7, rfl, q7⟩, ⟨a8, e8, _, _, m8, rfl, q8⟩, ⟨a9, e9, _, _, m9, rfl, q9⟩, ⟨a10, e10, _, _, m10, rfl, q10⟩, ⟨a11, e11, _, _, m11, rfl, q11⟩, ⟨a12, e12, _, _, m12, rfl, q12⟩, ⟨a13, e13, _, _, m13, rfl, q13⟩, ⟨a14, e14, _, _, m14, rfl, q14⟩, ⟨a15, e15, _, _, m15, rfl, q15⟩, ⟨a16, e16, _, _, m16, rfl, q16⟩, ⟨a17, e17, _, _, m17, rfl, q17⟩, ⟨a18, e18, _, _, m18, rfl, q18⟩, trivial⟩, bl_ok (L := gs.bl) ⟨PySem.W.mg_none_of X G b0, PySem.W.mg_none_of X G b1, PySem.W.mg_none_of X G b2, PySem.W.mg_none_of X G b3, PySem.W.mg_none_of X G b4, PySem.W.mg_none_of X G b5, PySem.W.mg_none_of X G b6, trivial⟩⟩
  exact law_end X G hfa tok m18 rfl q18 r18 pure
end K03
open PySem PySem.W PyProof.Rows
set_option maxHeartbeats 0 in
theorem PySem.Challenge.cw_throwless_k03_written_holds : PySem.Challenge.rw_throwless_k03_written.Holds := by
  w_on; o_law; k_head; (case hw => w_witness2)
  k_fill
  refine Thr.walk (x := "_law_script") (l := PySem.Challenge.rw_throwless_k03_written) rfl rfl (fun w h Y => PySem.W.kIn_of Y) ?F
  case F =>
    intro w mg fa h KX G hmg
    refine' Thr.use_fun KX "sum_words" (K03.top 1) ?a0 ?l0 ?c0 ?k0 (fun F0 => ?_)
    (case a0 => k_is); (case l0 => k_is); (case c0 => k_is); (case k0 => k_is)
    refine' Thr.use_fun KX "try_words" (K03.top 2) ?a1 ?l1 ?c1 ?k1 (fun F1 => ?_)
    (case a1 => k_is); (case l1 => k_is); (case c1 => k_is); (case k1 => k_is)
    refine' Thr.use_fun KX "deed_words" (K03.top 3) ?a2 ?l2 ?c2 ?k2 (fun F2 => ?_)
    (case a2 => k_is); (case l2 => k_is); (case c2 => k_is); (case k2 => k_is)
    refine' Thr.use_fun KX "block_words" (K03.top 4) ?a3 ?l3 ?c3 ?k3 (fun F3 => ?_)
    (case a3 => k_is); (case l3 => k_is); (case c3 => k_is); (case k3 => k_is)
    refine' Thr.use_fun KX "maker_words" (K03.top 5) ?a4 ?l4 ?c4 ?k4 (fun F4 => ?_)
    (case a4 => k_is); (case l4 => k_is); (case c4 => k_is); (case k4 => k_is)
    refine' Thr.use_fun KX "written" (K03.top 6) ?a5 ?l5 ?c5 ?k5 (fun F5 => ?_)
    (case a5 => k_is); (case l5 => k_is); (case c5 => k_is); (case k5 => k_is)
    refine' Thr.use_fun KX "_law_cell_at" (K03.top 8) ?a6 ?l6 ?c6 ?k6 (fun F6 => ?_)
    (case a6 => k_is); (case l6 => k_is); (case c6 => k_is); (case k6 => k_is)
    refine' Thr.use_fun KX "_law_mixed" (K03.top 9) ?a7 ?l7 ?c7 ?k7 (fun F7 => ?_)
    (case a7 => k_is); (case l7 => k_is); (case c7 => k_is); (case k7 => k_is)
    refine' Thr.use_fun KX "_law_drawn" (K03.top 10) ?a8 ?l8 ?c8 ?k8 (fun F8 => ?_)
    (case a8 => k_is); (case l8 => k_is); (case c8 => k_is); (case k8 => k_is)
    refine' Thr.use_fun KX "_law_sum" (K03.top 11) ?a9 ?l9 ?c9 ?k9 (fun F9 => ?_)
    (case a9 => k_is); (case l9 => k_is); (case c9 => k_is); (case k9 => k_is)
    refine' Thr.use_fun KX "_law_try" (K03.top 12) ?a10 ?l10 ?c10 ?k10 (fun F10 => ?_)
    (case a10 => k_is); (case l10 => k_is); (case c10 => k_is); (case k10 => k_is)
    refine' Thr.use_fun KX "_law_deed" (K03.top 13) ?a11 ?l11 ?c11 ?k11 (fun F11 => ?_)
    (case a11 => k_is); (case l11 => k_is); (case c11 => k_is); (case k11 => k_is)
    refine' Thr.use_fun KX "_law_block" (K03.top 14) ?a12 ?l12 ?c12 ?k12 (fun F12 => ?_)
    (case a12 => k_is); (case l12 => k_is); (case c12 => k_is); (case k12 => k_is)
    refine' Thr.use_fun KX "_law_book" (K03.top 15) ?a13 ?l13 ?c13 ?k13 (fun F13 => ?_)
    (case a13 => k_is); (case l13 => k_is); (case c13 => k_is); (case k13 => k_is)
    refine' Thr.use_fun KX "_law_sum_text" (K03.top 17) ?a14 ?l14 ?c14 ?k14 (fun F14 => ?_)
    (case a14 => k_is); (case l14 => k_is); (case c14 => k_is); (case k14 => k_is)
    refine' Thr.use_fun KX "_law_block_text" (K03.top 18) ?a15 ?l15 ?c15 ?k15 (fun F15 => ?_)
    (case a15 => k_is); (case l15 => k_is); (case c15 => k_is); (case k15 => k_is)
    refine' Thr.use_fun KX "_law_deed_text" (K03.top 19) ?a16 ?l16 ?c16 ?k16 (fun F16 => ?_)
    (case a16 => k_is); (case l16 => k_is); (case c16 => k_is); (case k16 => k_is)
    refine' Thr.use_fun KX "_law_text" (K03.top 20) ?a17 ?l17 ?c17 ?k17 (fun F17 => ?_)
    (case a17 => k_is); (case l17 => k_is); (case c17 => k_is); (case k17 => k_is)
    refine' Thr.use_fun KX "law" (K03.top 21) ?a18 ?l18 ?c18 ?k18 (fun F18 => ?_)
    (case a18 => k_is); (case l18 => k_is); (case c18 => k_is); (case k18 => k_is)
    refine' Thr.use_bl KX "enumerate" ?z0 (fun B0 => ?_)
    (case z0 => k_is)
    refine' Thr.use_bl KX "isinstance" ?z1 (fun B1 => ?_)
    (case z1 => k_is)
    refine' Thr.use_bl KX "len" ?z2 (fun B2 => ?_)
    (case z2 => k_is)
    refine' Thr.use_bl KX "list" ?z3 (fun B3 => ?_)
    (case z3 => k_is)
    refine' Thr.use_bl KX "range" ?z4 (fun B4 => ?_)
    (case z4 => k_is)
    refine' Thr.use_bl KX "str" ?z5 (fun B5 => ?_)
    (case z5 => k_is)
    refine' Thr.use_bl KX "tuple" ?z6 (fun B6 => ?_)
    (case z6 => k_is)
    exact K03.all_mk KX G hmg F0 F1 F2 F3 F4 F5 F6 F7 F8 F9 F10 F11 F12 F13 F14 F15 F16 F17 F18 B0 B1 B2 B3 B4 B5 B6 K03.law_true
