import PyProof.Rows.All
import Wide.All
import OpenK.AllK
import Wide.FinOn
import HandS.ForMost
import KE.SortData
import KE.DataMinMax
import KE.SortLaws
import KE.OsSortAny
import PyProof.Rows.SetFrom
import KE.KDictKeyed
import HandS.TupAny
import HandS.TupMul
import HandS.Style
import HandS.Deep
import HandS.IsInst
import HandS.Zip
import KE.DataCmp
import PyProof.Rows.InDataRows
import KE.KDictList
import KE.KDictCopyH
import HandS.Dict
import HandS.SortInts
import HandS.Text
import HandS.RaiseMore
import KE.GoesMore
import HandS.Iter
import HandS.Conv
import HandS.ExcCtx
import HandS.ExcOwn
import HandS.List
import KE.KDictDisplayH
import HandS.HotCalls
import HandS.ExcIs
import HandS.Defaults
import HandS.Ends
import HandS.Words
import HandS.Head0
import HandS.Head1
import HandS.Head2
import HandS.HeadEnd
import HandS.HeadHook1
import HandS.HeadHook2
import PySem.Challenge.RW_linefree_k06_whole_kinds
set_option Elab.async false
set_option linter.all false
set_option maxRecDepth 100000
/-! An evaluator over pure data: expressions and statements of a small language of trees, a store of cells that change. -/
namespace PD
open PySem

/-- what a name may hold: data that never changes, or a cell of the store -/
inductive EV where
  | dat (d : PyData)
  | loc (n : Nat)
inductive Cell where
  | lst (ds : List PyData)
  | dict (kvs : List (PyData × PyData))
abbrev Store := List Cell
abbrev Env := List (Option EV)
inductive R (α : Type) where
  | ok (a : α) (st : Store)
  | exc (c : Nat) (st : Store)
  | err
def R.bind {α β : Type} : R α → (α → Store → R β) → R β
  | .ok a st, f => f a st
  | .exc c st, _ => .exc c st
  | .err, _ => .err
inductive F where
  | nx (env : Env) (st : Store)
  | ret (v : EV) (st : Store)
  | exc (c : Nat) (st : Store)
  | err
def R.toF {α : Type} : R α → (α → Store → F) → F
  | .ok a st, f => f a st
  | .exc c st, _ => .exc c st
  | .err, _ => .err
def F.bind : F → (Env → Store → F) → F
  | .nx env st, f => f env st
  | .ret v st, _ => .ret v st
  | .exc c st, _ => .exc c st
  | .err, _ => .err

mutual
def same : PyData → PyData → Bool
  | .none, .none => true
  | .bool a, .bool b => a == b
  | .int i, .int j => decide (i = j)
  | .str x, .str y => decide (x = y)
  | .list xs, .list ys => sames xs ys
  | .tuple xs, .tuple ys => sames xs ys
  | .dict xs, .dict ys => sameKv xs ys
  | _, _ => false
def sames : List PyData → List PyData → Bool
  | [], [] => true
  | x :: xs, y :: ys => same x y && sames xs ys
  | _, _ => false
def sameKv : List (PyData × PyData) → List (PyData × PyData) → Bool
  | [], [] => true
  | (a, b) :: xs, (c, d) :: ys => same a c && (same b d && sameKv xs ys)
  | _, _ => false
end

/-- the most items of a list or tuple here -/
def LIM : Nat := 1000000

def rd (st : Store) : EV → Option PyData
  | .dat d => some d
  | .loc n => match st[n]? with
    | some (.lst ds) => some (.list ds)
    | _ => none
def rds (st : Store) : List EV → Option (List PyData)
  | [] => some []
  | v :: vs => match rd st v, rds st vs with
    | some d, some ds => some (d :: ds)
    | _, _ => none
def dats : List EV → Option (List PyData)
  | [] => some []
  | .dat d :: vs => match dats vs with
    | some ds => some (d :: ds)
    | none => none
  | .loc _ :: _ => none
def ofO (st : Store) : Option PyData → R EV
  | some d => .ok (.dat d) st
  | none => .err
def seqOf : PyData → Option (List PyData)
  | .list ds => some ds
  | .tuple ds => some ds
  | _ => none
def strOf : List PyData → Option (List Str)
  | [] => some []
  | .str x :: r => match strOf r with
    | some xs => some (x :: xs)
    | none => none
  | _ => none
def intsOf : List PyData → Option (List Int)
  | [] => some []
  | .int x :: r => match intsOf r with
    | some xs => some (x :: xs)
    | none => none
  | _ => none
def boolsOf : List PyData → Option (List Bool)
  | [] => some []
  | .bool x :: r => match boolsOf r with
    | some xs => some (x :: xs)
    | none => none
  | _ => none

def small (i : Int) : Bool := decide (-(2 ^ 64) < i) && decide (i < 2 ^ 64)
def reps (n : Int) (ds : List PyData) : List PyData := (List.replicate n.toNat ds).flatten

def binop : Operator → PyData → PyData → Option PyData
  | .Add, .int i, .int j => some (.int (i + j))
  | .Sub, .int i, .int j => some (.int (i - j))
  | .Mult, .int i, .int j => if small i || small j then some (.int (i * j)) else none
  | .FloorDiv, .int i, .int j => if decide (0 < j) && decide (j < 1073741824) then some (.int (i / j)) else none
  | .Mod, .int i, .int j => if decide (0 < j) then some (.int (i % j)) else none
  | .Pow, .int i, .int j => if decide (0 ≤ j) && decide (j ≤ 1000) && decide (i.natAbs < 2 ^ 64) then some (.int (i ^ j.toNat)) else none
  | .Add, .tuple xs, .tuple ys => if decide (xs.length + ys.length ≤ LIM) then some (.tuple (xs ++ ys)) else none
  | .Add, .list xs, .list ys => if decide (xs.length + ys.length ≤ LIM) then some (.list (xs ++ ys)) else none
  | .Add, .str xs, .str ys => if decide (xs.length + ys.length ≤ LIM) then some (.str (xs ++ ys)) else none
  | .Mult, .list xs, .int n => if decide (-(2 ^ 63) ≤ n) && decide (n < 2 ^ 63) && decide (xs.length * n.toNat ≤ LIM) then some (.list (reps n xs)) else none
  | .Mult, .tuple xs, .int n => if decide (2 ≤ n) && decide (n ≤ 1000) && decide (xs.length ≤ 1000) && decide (0 < xs.length) then some (.tuple (reps n xs)) else if decide (n = 1) then some (.tuple xs) else none
  | _, _, _ => none

def shape2 (x y : PyData) : Bool := SeqAt.shaped x && SeqAt.shaped y
def isNone : PyData → Bool
  | .none => true
  | _ => false
def hasEqv (x : PyData) (ds : List PyData) : Bool := ds.any fun z => PyData.eqv z x
def isTup : PyData → Bool
  | .tuple _ => true
  | _ => false
/-- x < y, for numbers, and for tuples whose places are alike -/
def ltD : PyData → PyData → Option Bool
  | .int i, .int j => some (decide (i < j))
  | .tuple xs, .tuple ys => if W.alike (.tuple xs) (.tuple ys) && (shape2 (.tuple xs) (.tuple ys)) then some (W.dataLt (.tuple xs) (.tuple ys)) else none
  | _, _ => none
def gtD : PyData → PyData → Option Bool
  | .int i, .int j => some (decide (j < i))
  | .tuple xs, .tuple ys => if W.alike (.tuple xs) (.tuple ys) && (shape2 (.tuple xs) (.tuple ys)) then some (W.dataLt (.tuple ys) (.tuple xs)) else none
  | _, _ => none
def leD : PyData → PyData → Option Bool
  | .int i, .int j => some (decide (i ≤ j))
  | _, _ => none
def geD : PyData → PyData → Option Bool
  | .int i, .int j => some (decide (j ≤ i))
  | _, _ => none
def eqD (x y : PyData) : Option Bool := if shape2 x y then some (PyData.eqv x y) else none
def isD : PyData → PyData → Option Bool
  | x, .none => some (isNone x)
  | .bool a, .bool b => some (decide (a = b))
  | _, _ => none
def inD : PyData → PyData → Option Bool
  | x, .list ds => if shape2 x (.list ds) then some (hasEqv x ds) else none
  | x, .tuple ds => if shape2 x (.tuple ds) then some (hasEqv x ds) else none
  | .str c, .str z => match c.cps.toList with
    | [k] => some (decide (k ∈ z.cps.toList))
    | _ => none
  | _, _ => none
def cmpD (op : CmpOp) (x y : PyData) : Option Bool := match op with
  | .Eq => eqD x y
  | .NotEq => (eqD x y).map (!·)
  | .Lt => ltD x y
  | .Gt => gtD x y
  | .LtE => leD x y
  | .GtE => geD x y
  | .Is => isD x y
  | .IsNot => (isD x y).map (!·)
  | .In => inD x y
  | .NotIn => (inD x y).map (!·)

/-- an index, from either end -/
def atD (ds : List PyData) (i : Int) : Option PyData := L2.atI ds i
def cutD (ds : List PyData) (lo hi : Option Int) : List PyData := (ds.drop (HT.sIx ds.length 0 lo)).take (HT.sIx ds.length ds.length hi - HT.sIx ds.length 0 lo)

def lookD (kvs : List (PyData × PyData)) (k : PyData) : Option PyData := match kvs with
  | [] => none
  | (a, b) :: r => if same a k then some b else lookD r k
def putD (kvs : List (PyData × PyData)) (k v : PyData) : List (PyData × PyData) := match kvs with
  | [] => [(k, v)]
  | (a, b) :: r => if same a k then (a, v) :: r else (a, b) :: putD r k v
mutual
/-- a key of a dict here: a tuple of whole numbers and such tuples, d deep -/
def keyOk : Nat → PyData → Bool
  | _, .int _ => true
  | d + 1, .tuple xs => keysOk d xs
  | _, _ => false
def keysOk : Nat → List PyData → Bool
  | _, [] => true
  | d, x :: xs => keyOk d x && keysOk d xs
end
def tupKey (k : PyData) : Bool := isTup k && keyOk 6 k

inductive Ty where
  | int | bool | tuple | str
def isTy : PyData → Ty → Bool
  | .int _, .int => true
  | .bool _, .int => true
  | .bool _, .bool => true
  | .tuple _, .tuple => true
  | .str _, .str => true
  | _, _ => false

inductive Blt where
  | len | tuple | sorted | list | sum | all | str | int | min2 | maxL | minD | lenSet
def dedup : List PyData → List PyData
  | [] => []
  | x :: xs => let r := dedup xs; if r.any (same x) then r else x :: r
def allAlike (ds : List PyData) : Bool := ds.all fun d => ds.all fun e => W.alike d e
mutual
/-- whole numbers, n deep in tuples -/
def ofK : Nat → PyData → Bool
  | 0, .int _ => true
  | n + 1, .tuple xs => ofKs n xs
  | _, _ => false
def ofKs : Nat → List PyData → Bool
  | _, [] => true
  | n, x :: xs => ofK n x && ofKs n xs
end
def alikes (ds : List PyData) : Bool := ofKs 0 ds || ofKs 1 ds || ofKs 2 ds || ofKs 3 ds || allAlike ds
def plainOrd (ds : List PyData) : Bool := (ds.all fun d => match d with
    | .tuple (_ :: _) => true
    | _ => false) || (ds.all fun d => match d with
    | .tuple _ => false
    | .none => false
    | _ => true)
/-- a list that sorted takes -/
def sortable (ds : List PyData) : Bool := alikes ds && (plainOrd ds || (decide (ds.length ≤ 1) && ds.all fun e => !isNone e)) && decide (PyData.depthAll ds ≤ 64) && decide (ds.length ≤ LIM)
def insD (x : PyData) : List PyData → List PyData
  | [] => [x]
  | y :: r => if W.dataLe false (fun d => d) x y then x :: y :: r else y :: insD x r
def sortD : List PyData → List PyData
  | [] => []
  | x :: r => insD x (sortD r)
def sortO (ds : List PyData) : Option PyData := if sortable ds then some (.list (sortD ds)) else none
def maxInt : Int → List Int → Int
  | m, [] => m
  | m, x :: r => maxInt (if m < x then x else m) r

def lenD (d : PyData) : Option PyData := match seqOf d with
  | some ds => some (.int ds.length)
  | none => none
def tupleD (d : PyData) : Option PyData := match seqOf d with
  | some ds => some (.tuple ds)
  | none => none
def listD (d : PyData) : Option PyData := match seqOf d with
  | some ds => some (.list ds)
  | none => none
def sortedD : PyData → Option PyData
  | .list ds => sortO ds
  | .tuple ds => sortO ds
  | _ => none
def sumD : PyData → Option PyData
  | .list ds => match intsOf ds with
    | some ns => some (.int ns.sum)
    | none => none
  | _ => none
def allD : PyData → Option PyData
  | .list ds => match boolsOf ds with
    | some bs => some (.bool (bs.all id))
    | none => none
  | _ => none
def strD : PyData → Option PyData
  | .int i => if decide (i.natAbs.log2 < 1920) then some (.str (toString i)) else none
  | .str x => some (.str x)
  | _ => none
def intD : PyData → Option PyData
  | .str x => if decide (x.length ≤ 640) then (match PySem.intText? x with
    | some n => some (.int n)
    | none => none) else none
  | _ => none
def maxD : PyData → Option PyData
  | .list ds => match intsOf ds with
    | some (n :: ns) => some (.int (maxInt n ns))
    | _ => none
  | _ => none
def minOk (ds : List PyData) : Bool := alikes ds && decide (ds.length ≤ LIM) && (ds.all fun e => !isNone e) && decide (PyData.depthAll ds ≤ 64)
def minLD : PyData → Option PyData
  | .list (d :: r) => if minOk (d :: r) then some (W.minD d r) else none
  | _ => none
def setLen (ns : List Int) : Nat := (PyProof.Rows.firstMet (fun i => ns.getD i 0) ns.length).length
def lenSetD : PyData → Option PyData
  | .list ds => match intsOf ds with
    | some ns => if decide (ns.length < 64) then some (.int (setLen ns)) else none
    | none => none
  | _ => none
def min2D : PyData → PyData → Option PyData
  | .int i, .int j => some (.int (if j < i then j else i))
  | .tuple xs, .tuple ys => if minOk [.tuple xs, .tuple ys] then some (W.minD (.tuple xs) [.tuple ys]) else none
  | _, _ => none
def one1 (f : PyData → Option PyData) : List PyData → Option PyData
  | [d] => f d
  | _ => none
def one2 (f : PyData → PyData → Option PyData) : List PyData → Option PyData
  | [d, e] => f d e
  | _ => none
def bltD : Blt → List PyData → Option PyData
  | .len => one1 lenD
  | .tuple => one1 tupleD
  | .sorted => one1 sortedD
  | .list => one1 listD
  | .sum => one1 sumD
  | .all => one1 allD
  | .str => one1 strD
  | .int => one1 intD
  | .min2 => one2 min2D
  | .maxL => one1 maxD
  | .minD => one1 minLD
  | .lenSet => one1 lenSetD

inductive Mth where
  | append | extend | pop | join | split | get2
inductive Tg where
  | one (i : Nat) | two (i j : Nat)

mutual
inductive IE where
  | var (i : Nat)
  | lit (d : PyData)
  | neg (a : IE)
  | bin (op : Operator) (a b : IE)
  | cmp (op : CmpOp) (a b : IE)
  | chain (op op' : CmpOp) (a b c : IE)
  | and (a b : IE)
  | or (a b : IE)
  | one (a : IE)
  | not (a : IE)
  | ite (t a b : IE)
  | tup (es : IA)
  | lst (es : IA)
  | newL (es : IA)
  | newD
  | newD1 (k v : IE)
  | ix (a i : IE)
  | slc (a : IE) (lo hi : IO)
  | rev (a : IE)
  | call (f : Nat) (es : IA)
  | callIx (fs : List Nat) (i : IE) (es : IA)
  | blt (b : Blt) (es : IA)
  | newLst (e : IE)
  | dlist (e : IE)
  | dsort (e : IE)
  | isT (a : IE) (t : Ty)
  | mth (m : Mth) (o : IE) (es : IA)
  | comp (own : List Nat) (tg : Tg) (it : II) (cond : IO) (e : IE)
inductive IA where
  | nil
  | cons (e : IE) (es : IA)
inductive IO where
  | none
  | some (e : IE)
inductive II where
  | seq (e : IE)
  | dkeys (e : IE)
  | range1 (e : IE)
  | range3 (a b c : IE)
  | enum (e : IE)
  | zip (a b : IE)
end
structure Fn where
  name : Str
  ar : Nat
  den : List EV → Store → R EV

/-- what a loop goes over: the items, and the cell that must stay as it is meanwhile -/
structure Items where
  ds : List PyData
  src : Option (Nat × List PyData)
def guardOk (src : Option (Nat × List PyData)) (st : Store) : Bool := match src with
  | none => true
  | some (n, ds) => match st[n]? with
    | some (.lst es) => sames es ds
    | _ => false
def bindT : Tg → Env → PyData → Option Env
  | .one i, env, d => some (env.set i (some (.dat d)))
  | .two i j, env, .tuple [x, y] => some ((env.set i (some (.dat x))).set j (some (.dat y)))
  | _, _, _ => none
def wipeE (env : Env) : List Nat → Env
  | [] => env
  | v :: vs => (wipeE env vs).set v none
def itemsOf (st : Store) : EV → Option Items
  | .dat (.list ds) => some ⟨ds, none⟩
  | .dat (.tuple ds) => some ⟨ds, none⟩
  | .dat (.str s) => some ⟨s.cps.toList.map fun c => .str ⟨#[c]⟩, none⟩
  | .dat _ => none
  | .loc n => match st[n]? with
    | some (.lst ds) => some ⟨ds, some (n, ds)⟩
    | _ => none
def seqItems (st : Store) : EV → Option Items
  | .dat (.list ds) => some ⟨ds, none⟩
  | .dat (.tuple ds) => some ⟨ds, none⟩
  | .dat _ => none
  | .loc n => match st[n]? with
    | some (.lst ds) => some ⟨ds, some (n, ds)⟩
    | _ => none
def enumD : Nat → List PyData → List PyData
  | _, [] => []
  | k, d :: r => .tuple [.int k, d] :: enumD (k + 1) r
def zipD : List PyData → List PyData → List PyData
  | x :: xs, y :: ys => .tuple [x, y] :: zipD xs ys
  | _, _ => []
def rangeD (lo : Int) (c : Int) : Nat → List PyData
  | 0 => []
  | n + 1 => .int lo :: rangeD (lo + c) c n
def tiny (i : Int) : Bool := decide (-1000000 ≤ i) && decide (i ≤ 1000000)
def down (a b : Int) : Nat := (a - b).toNat

/-- [f x for x in ds], what f leaves out left out; f raises nothing; the list under construction is the store's last cell -/
def compL (g : Store → Bool) (f : PyData → Store → R (Option PyData)) : List PyData → List PyData → Store → R (List PyData)
  | [], acc, st => if g st then .ok acc st else .err
  | d :: r, acc, st => if g st then (match f d (st ++ [.lst acc]) with
    | .ok o st1 => if st1.length = st.length + 1 then (match st1[st.length]? with
      | some (.lst acc1) => if acc1.length < LIM then compL g f r (match o with
        | some y => acc1 ++ [y]
        | none => acc1) (st1.take st.length) else .err
      | _ => .err) else .err
    | _ => .err) else .err
/-- the element of a comprehension: t tells whether it is taken -/
def elemF (t f : Env → Store → R EV) (own : List Nat) (tg : Tg) (env : Env) (d : PyData) (st2 : Store) : R (Option PyData) := match bindT tg (wipeE env own) d with
  | some env2 => (t env2 st2).bind fun b st3 => match b with
    | .dat (.bool true) => (f env2 st3).bind fun y st4 => match y with
      | .dat z => .ok (some z) st4
      | _ => .err
    | .dat (.bool false) => .ok none st3
    | _ => .err
  | none => .err
def forL (g : Store → Bool) (f : PyData → Env → Store → F) : List PyData → Env → Store → F
  | [], env, st => if g st then .nx env st else .err
  | d :: r, env, st => if g st then (f d env st).bind (fun env1 st1 => forL g f r env1 st1) else .err
def whileL (t : Env → Store → R EV) (f : Env → Store → F) : Nat → Env → Store → F
  | 0, _, _ => .err
  | n + 1, env, st => (t env st).toF fun v st1 => match v with
    | .dat (.bool true) => (f env st1).bind fun env2 st2 => whileL t f n env2 st2
    | .dat (.bool false) => .nx env st1
    | _ => .err

def callF (G : List Fn) (f : Nat) (vs : List EV) (st : Store) : R EV := match G[f]? with
  | some e => if vs.length = e.ar then e.den vs st else .err
  | none => .err
def appD (st : Store) : EV → List EV → R EV
  | .loc n, [.dat d] => match st[n]? with
    | some (.lst ds) => if ds.length < LIM then .ok (.dat .none) (st.set n (.lst (ds ++ [d]))) else .err
    | _ => .err
  | _, _ => .err
def extD (st : Store) : EV → List EV → R EV
  | .loc n, [.dat (.list es)] => match st[n]? with
    | some (.lst ds) => if ds.length + es.length ≤ LIM then .ok (.dat .none) (st.set n (.lst (ds ++ es))) else .err
    | _ => .err
  | _, _ => .err
def popD (st : Store) : EV → List EV → R EV
  | .loc n, [] => match st[n]? with
    | some (.lst ds) => match ds.getLast? with
      | some d => .ok (.dat d) (st.set n (.lst ds.dropLast))
      | none => .err
    | _ => .err
  | _, _ => .err
def getD2 (st : Store) : EV → List EV → R EV
  | .loc n, [.dat k, .dat x] => match st[n]? with
    | some (.dict kvs) => if tupKey k then .ok (.dat ((lookD kvs k).getD x)) st else .err
    | _ => .err
  | _, _ => .err
def strsOf (d : PyData) : Option (List Str) := match seqOf d with
  | some ds => strOf ds
  | none => none
def joinD (st : Store) : EV → List EV → R EV
  | .dat (.str a), [v] => match rd st v with
    | some d => match strsOf d with
      | some ys => if (ys.map (·.length)).sum + ys.length * a.length ≤ LIM then .ok (.dat (.str (Txt.join a ys))) st else .err
      | none => .err
    | none => .err
  | _, _ => .err
def splitD (st : Store) : EV → List EV → R EV
  | .dat (.str a), [.dat (.str b)] => if !(b.length == 0) && decide (a.length ≤ LIM) then .ok (.dat (.list ((Txt.split a b).map .str))) st else .err
  | _, _ => .err
def isLst (st : Store) : EV → Bool
  | .loc n => match st[n]? with
    | some (.lst _) => true
    | _ => false
  | .dat _ => false
def isStr : EV → Bool
  | .dat (.str _) => true
  | _ => false
/-- the receiver is of the method's type -/
def mthOk (m : Mth) (v : EV) (st : Store) : Bool := match m with
  | .append => isLst st v
  | .extend => isLst st v
  | .pop => isLst st v
  | .join => isStr v
  | .split => isStr v
  | .get2 => true
def mthD (m : Mth) (o : EV) (vs : List EV) (st : Store) : R EV := match m with
  | .append => appD st o vs
  | .extend => extD st o vs
  | .pop => popD st o vs
  | .get2 => getD2 st o vs
  | .join => joinD st o vs
  | .split => splitD st o vs
def cmpV (op : CmpOp) (x y : EV) (st : Store) : R EV := match op, x, y with
  | .In, .dat k, .loc n => match st[n]? with
    | some (.dict kvs) => if tupKey k then .ok (.dat (.bool (lookD kvs k).isSome)) st else .err
    | some (.lst ds) => match cmpD .In k (.list ds) with
      | some b => .ok (.dat (.bool b)) st
      | none => .err
    | none => .err
  | .NotIn, .dat k, .loc n => match st[n]? with
    | some (.dict kvs) => if tupKey k then .ok (.dat (.bool (!(lookD kvs k).isSome))) st else .err
    | some (.lst ds) => match cmpD .NotIn k (.list ds) with
      | some b => .ok (.dat (.bool b)) st
      | none => .err
    | none => .err
  | _, _, _ => match rd st x, rd st y with
    | some a, some b => match cmpD op a b with
      | some r => .ok (.dat (.bool r)) st
      | none => .err
    | _, _ => .err
def ixV (x i : EV) (st : Store) : R EV := match i with
  | .dat (.int k) => match rd st x with
    | some d => match seqOf d with
      | some ds => ofO st (atD ds k)
      | none => .err
    | none => .err
  | .dat k => match x with
    | .loc n => match st[n]? with
      | some (.dict kvs) => if tupKey k then ofO st (lookD kvs k) else .err
      | _ => .err
    | _ => .err
  | _ => .err
def slcD (d : PyData) (lo hi : Option Int) : Option PyData := match d with
  | .list ds => some (.list (cutD ds lo hi))
  | .tuple ds => some (.tuple (cutD ds lo hi))
  | .str s => if s.length ≤ LIM then some (.str (L2.cutS s lo hi)) else none
  | _ => none
def revD : PyData → Option PyData
  | .list ds => some (.list ds.reverse)
  | .tuple ds => some (.tuple ds.reverse)
  | _ => none
def isTV (t : Ty) (v : EV) (st : Store) : R EV := match v with
  | .dat d => .ok (.dat (.bool (isTy d t))) st
  | .loc n => match st[n]? with
    | some (.lst _) => .ok (.dat (.bool false)) st
    | _ => .err
def setIxV (x y z : EV) (st : Store) : Option Store := match x, y, z with
  | .dat d, .loc n, .dat (.int i) => match st[n]? with
    | some (.lst ds) => match L2.ixN ds.length i with
      | some j => some (st.set n (.lst (ds.set j d)))
      | none => none
    | _ => none
  | .dat d, .loc n, .dat key => match st[n]? with
    | some (.dict kvs) => if tupKey key && decide (kvs.length < LIM) then some (st.set n (.dict (putD kvs key d))) else none
    | _ => none
  | _, _, _ => none
def keysV (v : EV) (st : Store) : R EV := match v with
  | .loc n => match st[n]? with
    | some (.dict kvs) => .ok (.dat (.list (kvs.map (·.1)))) st
    | _ => .err
  | _ => .err
def optInt (st : Store) : EV → Option Int
  | .dat (.int i) => some i
  | _ => none

mutual
def ev (G : List Fn) : IE → Env → Store → R EV
  | .var i, env, st => match env[i]? with
    | some (some v) => .ok v st
    | _ => .err
  | .lit d, _, st => .ok (.dat d) st
  | .neg a, env, st => (ev G a env st).bind fun x st1 => match x with
    | .dat (.int i) => .ok (.dat (.int (-i))) st1
    | _ => .err
  | .bin op a b, env, st => (ev G a env st).bind fun x st1 => (ev G b env st1).bind fun y st2 => match rd st2 x, rd st2 y with
    | some d, some e => ofO st2 (binop op d e)
    | _, _ => .err
  | .cmp op a b, env, st => (ev G a env st).bind fun x st1 => (ev G b env st1).bind fun y st2 => cmpV op x y st2
  | .chain op op' a b c, env, st => (ev G a env st).bind fun x st1 => (ev G b env st1).bind fun y st2 => (cmpV op x y st2).bind fun r st3 => match r with
    | .dat (.bool true) => (ev G c env st3).bind fun z st4 => cmpV op' y z st4
    | .dat (.bool false) => .ok (.dat (.bool false)) st3
    | _ => .err
  | .and a b, env, st => (ev G a env st).bind fun x st1 => match x with
    | .dat (.bool true) => ev G b env st1
    | .dat (.bool false) => .ok (.dat (.bool false)) st1
    | _ => .err
  | .or a b, env, st => (ev G a env st).bind fun x st1 => match x with
    | .dat (.bool false) => ev G b env st1
    | .dat (.bool true) => .ok (.dat (.bool true)) st1
    | _ => .err
  | .one a, env, st => ev G a env st
  | .not a, env, st => (ev G a env st).bind fun x st1 => match x with
    | .dat (.bool b) => .ok (.dat (.bool (!b))) st1
    | _ => .err
  | .ite t a b, env, st => (ev G t env st).bind fun x st1 => match x with
    | .dat (.bool true) => ev G a env st1
    | .dat (.bool false) => ev G b env st1
    | _ => .err
  | .tup es, env, st => (evs G es env st).bind fun vs st1 => match dats vs with
    | some ds => .ok (.dat (.tuple ds)) st1
    | none => .err
  | .lst es, env, st => (evs G es env st).bind fun vs st1 => match dats vs with
    | some ds => .ok (.dat (.list ds)) st1
    | none => .err
  | .newL es, env, st => (evs G es env st).bind fun vs st1 => match dats vs with
    | some ds => .ok (.loc st1.length) (st1 ++ [.lst ds])
    | none => .err
  | .newD, _, st => .ok (.loc st.length) (st ++ [.dict []])
  | .newD1 k v, env, st => (ev G k env st).bind fun x st1 => (ev G v env st1).bind fun y st2 => match x, y with
    | .dat a, .dat b => if tupKey a then .ok (.loc st2.length) (st2 ++ [.dict [(a, b)]]) else .err
    | _, _ => .err
  | .ix a i, env, st => (ev G a env st).bind fun x st1 => (ev G i env st1).bind fun y st2 => ixV x y st2
  | .slc a lo hi, env, st => (ev G a env st).bind fun x st1 => (evo G lo env st1).bind fun l st2 => (evo G hi env st2).bind fun h st3 => match rd st3 x with
    | some d => ofO st3 (slcD d l h)
    | none => .err
  | .rev a, env, st => (ev G a env st).bind fun x st1 => match rd st1 x with
    | some d => ofO st1 (revD d)
    | none => .err
  | .call f es, env, st => (evs G es env st).bind fun vs st1 => callF G f vs st1
  | .callIx fs i es, env, st => (ev G i env st).bind fun x st1 => match x with
    | .dat (.int k) => match L2.atI fs k with
      | some f => (evs G es env st1).bind fun vs st2 => callF G f vs st2
      | none => .err
    | _ => .err
  | .blt b es, env, st => (evs G es env st).bind fun vs st1 => match rds st1 vs with
    | some ds => ofO st1 (bltD b ds)
    | none => .err
  | .newLst e, env, st => (ev G e env st).bind fun x st1 => match rd st1 x with
    | some d => match seqOf d with
      | some ds => .ok (.loc st1.length) (st1 ++ [.lst ds])
      | none => .err
    | none => .err
  | .dlist e, env, st => (ev G e env st).bind fun x st1 => keysV x st1
  | .dsort e, env, st => (ev G e env st).bind fun x st1 => match x with
    | .loc n => match st1[n]? with
      | some (.dict kvs) => ofO st1 (sortO (kvs.map (·.1)))
      | _ => .err
    | _ => .err
  | .isT a t, env, st => (ev G a env st).bind fun x st1 => isTV t x st1
  | .mth m o es, env, st => (ev G o env st).bind fun x st1 => if mthOk m x st1 then (evs G es env st1).bind fun vs st2 => mthD m x vs st2 else .err
  | .comp own tg it cond e, env, st => (evI G it env st).bind fun its st1 => if its.ds.length ≤ LIM then
      (compL (guardOk its.src) (elemF (fun env2 st2 => evC G cond env2 st2) (fun env2 st2 => ev G e env2 st2) own tg env) its.ds [] st1).bind fun ys st5 => .ok (.dat (.list ys)) st5
    else .err
def evC (G : List Fn) : IO → Env → Store → R EV
  | .none, _, st => .ok (.dat (.bool true)) st
  | .some e, env, st => ev G e env st
def evs (G : List Fn) : IA → Env → Store → R (List EV)
  | .nil, _, st => .ok [] st
  | .cons e es, env, st => (ev G e env st).bind fun x st1 => (evs G es env st1).bind fun xs st2 => .ok (x :: xs) st2
def evo (G : List Fn) : IO → Env → Store → R (Option Int)
  | .none, _, st => .ok none st
  | .some e, env, st => (ev G e env st).bind fun x st1 => match x with
    | .dat (.int i) => .ok (some i) st1
    | _ => .err
def evI (G : List Fn) : II → Env → Store → R Items
  | .seq e, env, st => (ev G e env st).bind fun x st1 => match itemsOf st1 x with
    | some its => .ok its st1
    | none => .err
  | .dkeys e, env, st => .err
  | .range1 e, env, st => (ev G e env st).bind fun x st1 => match x with
    | .dat (.int n) => if tiny n then .ok ⟨rangeD 0 1 n.toNat, none⟩ st1 else .err
    | _ => .err
  | .range3 a b c, env, st => (ev G a env st).bind fun x st1 => (ev G b env st1).bind fun y st2 => (ev G c env st2).bind fun z st3 => match x, y, z with
    | .dat (.int i), .dat (.int j), .dat (.int k) => if tiny i && tiny j && decide (k = -1) then .ok ⟨rangeD i (-1) (down i j), none⟩ st3 else .err
    | _, _, _ => .err
  | .enum e, env, st => (ev G e env st).bind fun x st1 => match seqItems st1 x with
    | some its => .ok ⟨enumD 0 its.ds, its.src⟩ st1
    | none => .err
  | .zip a b, env, st => (ev G a env st).bind fun x st1 => (ev G b env st1).bind fun y st2 => match x, y with
    | .dat (.tuple xs), .dat (.tuple ys) => .ok ⟨zipD xs ys, none⟩ st2
    | .dat (.list xs), .dat (.list ys) => .ok ⟨zipD xs ys, none⟩ st2
    | _, _ => .err
end

mutual
inductive IS where
  | pass
  | set (i : Nat) (e : IE)
  | set2 (i j : Nat) (a b : IE)
  | set3 (i j k : Nat) (a b c : IE)
  | setIx (o k v : IE)
  | aug (i : Nat) (e : IE)
  | exp (e : IE)
  | ife (t : IE) (a b : IB)
  | whl (t : IE) (a : IB)
  | for_ (tg : Tg) (it : II) (a : IB)
  | ret (e : IE)
  | retN
  | rais (c : Nat)
  | tryW (a : IB)
  | hole
inductive IB where
  | nil
  | cons (s : IS) (b : IB)
end
def fuel : Nat := 100000
/-- what the law's own answer to an error is -/
def raised (c : Nat) : PyData := .tuple [.str "raised", .int c]

mutual
def ex (G : List Fn) : IS → Env → Store → F
  | .pass, env, st => .nx env st
  | .set i e, env, st => (ev G e env st).toF fun v st1 => .nx (env.set i (some v)) st1
  | .set2 i j a b, env, st => (ev G a env st).toF fun x st1 => (ev G b env st1).toF fun y st2 => .nx ((env.set i (some x)).set j (some y)) st2
  | .set3 i j k a b c, env, st => (ev G a env st).toF fun x st1 => (ev G b env st1).toF fun y st2 => (ev G c env st2).toF fun z st3 => .nx (((env.set i (some x)).set j (some y)).set k (some z)) st3
  | .setIx o k v, env, st => (ev G v env st).toF fun x st1 => (ev G o env st1).toF fun y st2 => (ev G k env st2).toF fun z st3 => match setIxV x y z st3 with
    | some st4 => .nx env st4
    | none => .err
  | .aug i e, env, st => match env[i]? with
    | some (some (.dat (.int m))) => (ev G e env st).toF fun y st1 => match y with
      | .dat (.int n) => .nx (env.set i (some (.dat (.int (m + n))))) st1
      | _ => .err
    | _ => .err
  | .exp e, env, st => (ev G e env st).toF fun _ st1 => .nx env st1
  | .ife t a b, env, st => (ev G t env st).toF fun x st1 => match x with
    | .dat (.bool true) => exB G a env st1
    | .dat (.bool false) => exB G b env st1
    | _ => .err
  | .whl t a, env, st => whileL (fun env1 st1 => ev G t env1 st1) (fun env1 st1 => exB G a env1 st1) fuel env st
  | .for_ tg it a, env, st => (evI G it env st).toF fun its st1 => forL (guardOk its.src) (fun d env1 st2 => match bindT tg env1 d with
    | some env2 => exB G a env2 st2
    | none => .err) its.ds env st1
  | .ret e, env, st => (ev G e env st).toF fun v st1 => .ret v st1
  | .retN, _, st => .ret (.dat .none) st
  | .rais c, _, st => .exc c st
  | .tryW a, env, st => match exB G a env st with
    | .exc c st1 => if c < 10 then .ret (.dat (raised c)) st1 else .err
    | r => r
  | .hole, _, _ => .err
def exB (G : List Fn) : IB → Env → Store → F
  | .nil, env, st => .nx env st
  | .cons s b, env, st => (ex G s env st).bind fun env1 st1 => exB G b env1 st1
end

/-- what a def hands back: its own cells are gone; a list of its own that it hands back is data from then on -/
def fin (n : Nat) (v : EV) (st : Store) : R EV := match v with
  | .dat d => .ok (.dat d) (st.take n)
  | .loc m => if m < n then .ok (.loc m) (st.take n) else match st[m]? with
    | some (.lst ds) => .ok (.dat (.list ds)) (st.take n)
    | _ => .err
def startE (slots : Nat) (args : List EV) : Env := args.map some ++ List.replicate (slots - args.length) none
def runDef (G : List Fn) (slots : Nat) (b : IB) (args : List EV) (st : Store) : R EV := match exB G b (startE slots args) st with
  | .nx _ st1 => fin st.length (.dat .none) st1
  | .ret v st1 => fin st.length v st1
  | .exc c st1 => .exc c (st1.take st.length)
  | .err => .err
end PD

set_option Elab.async false
set_option linter.all false
set_option maxRecDepth 100000
/-! How the evaluator's data and cells lie in the layer's heap. -/
namespace PD
open PySem PySem.Spec PyProof.Rows L2

mutual
/-- v is the data d, all of it in the heap F -/
inductive Dr (F : Hp) : V → PyData → Prop where
  | non : Dr F .non .none
  | bl (b : Bool) : Dr F (.bl b) (.bool b)
  | int (i : Int) : Dr F (.int i) (.int i)
  | str (x : Str) : Dr F (.str x) (.str x)
  | lst {a : Addr} {xs : List V} {ds : List PyData} : Rd F a (.lst xs) → Drs F xs ds → Dr F (.ref a) (.list ds)
  | tup {a : Addr} {xs : List V} {ds : List PyData} : F a = some (.tup xs) → Drs F xs ds → Dr F (.ref a) (.tuple ds)
inductive Drs (F : Hp) : List V → List PyData → Prop where
  | nil : Drs F [] []
  | cons {v : V} {vs : List V} {d : PyData} {ds : List PyData} : Dr F v d → Drs F vs ds → Drs F (v :: vs) (d :: ds)
end
/-- all that F has, G has -/
def Sub (F G : Hp) : Prop := ∀ a o, F a = some o → G a = some o
theorem Sub.refl (F : Hp) : Sub F F := fun _ _ h => h
theorem Sub.trans {F G K : Hp} (a : Sub F G) (b : Sub G K) : Sub F K := fun c o h => b c o (a c o h)
theorem Rd.sub {F G : Hp} (s : Sub F G) {a : Addr} {o : HO} (h : Rd F a o) : Rd G a o := by
  rcases h with h | ⟨u, h⟩
  · exact .inl (s _ _ h)
  · exact .inr ⟨u, s _ _ h⟩
mutual
theorem Dr.sub {F G : Hp} (s : Sub F G) : ∀ (d : PyData) (v : V), Dr F v d → Dr G v d
  | .none, _, h => by cases h; exact .non
  | .bool _, _, h => by cases h; exact .bl _
  | .int _, _, h => by cases h; exact .int _
  | .str _, _, h => by cases h; exact .str _
  | .list ds, _, h => by
    cases h with
    | lst h1 h2 => exact .lst (Rd.sub s h1) (Drs.sub s ds _ h2)
  | .tuple ds, _, h => by
    cases h with
    | tup h1 h2 => exact .tup (s _ _ h1) (Drs.sub s ds _ h2)
  | .dict _, _, h => nomatch h
theorem Drs.sub {F G : Hp} (s : Sub F G) : ∀ (ds : List PyData) (vs : List V), Drs F vs ds → Drs G vs ds
  | [], _, h => by cases h; exact .nil
  | d :: ds, _, h => by
    cases h with
    | cons h1 h2 => exact .cons (Dr.sub s d _ h1) (Drs.sub s ds _ h2)
end
mutual
theorem Dr.dp {K : PySem.W.Frag} {H : Hp} : ∀ (d : PyData) (v : V), Dr H v d → Dp K H v d
  | .none, _, h => by cases h; exact .non
  | .bool _, _, h => by cases h; exact .bl _
  | .int _, _, h => by cases h; exact .int _
  | .str _, _, h => by cases h; exact .str _
  | .list ds, _, h => by
    cases h with
    | lst h1 h2 => exact .lst (.inl h1) (Drs.dp ds _ h2)
  | .tuple ds, _, h => by
    cases h with
    | tup h1 h2 => exact .tup (.inl (.inl h1)) (Drs.dp ds _ h2)
  | .dict _, _, h => nomatch h
theorem Drs.dp {K : PySem.W.Frag} {H : Hp} : ∀ (ds : List PyData) (vs : List V), Drs H vs ds → DpAll K H vs ds
  | [], _, h => by cases h; exact .nil
  | d :: ds, _, h => by
    cases h with
    | cons h1 h2 => exact .cons (Dr.dp d _ h1) (Drs.dp ds _ h2)
end
theorem Drs.length {F : Hp} : ∀ {vs : List V} {ds : List PyData}, Drs F vs ds → vs.length = ds.length
  | _, _, .nil => rfl
  | _, _, .cons _ t => by rw [List.length_cons, List.length_cons, Drs.length t]
theorem Drs.get {F : Hp} : ∀ {vs : List V} {ds : List PyData} {i : Nat} {d : PyData}, Drs F vs ds → ds[i]? = some d → ∃ v, vs[i]? = some v ∧ Dr F v d
  | _, _, _, _, .nil, e => by simp at e
  | _, _, 0, _, .cons r _, e => by
    simp at e
    subst e
    exact ⟨_, rfl, r⟩
  | _, _, i + 1, d, .cons _ t, e => by
    obtain ⟨v, h1, h2⟩ := Drs.get (i := i) (d := d) t (by simpa using e)
    exact ⟨v, by simpa using h1, h2⟩
theorem Drs.getV {F : Hp} {vs : List V} {ds : List PyData} {i : Nat} {v : V} (h : Drs F vs ds) (e : vs[i]? = some v) : ∃ d, ds[i]? = some d ∧ Dr F v d := by
  have hi : i < vs.length := (List.getElem?_eq_some_iff.mp e).1
  have hd : i < ds.length := by rw [← h.length]; exact hi
  obtain ⟨w, h1, h2⟩ := h.get (List.getElem?_eq_getElem hd)
  have ew : w = v := Option.some.inj (h1.symm.trans e)
  subst ew
  exact ⟨_, List.getElem?_eq_getElem hd, h2⟩
theorem Drs.append {F : Hp} : ∀ {xs ys : List V} {ds es : List PyData}, Drs F xs ds → Drs F ys es → Drs F (xs ++ ys) (ds ++ es)
  | _, _, _, _, .nil, s => s
  | _, _, _, _, .cons r t, s => .cons r (Drs.append t s)
theorem Drs.take {F : Hp} : ∀ {xs : List V} {ds : List PyData} (n : Nat), Drs F xs ds → Drs F (xs.take n) (ds.take n)
  | _, _, 0, _ => .nil
  | _, _, _ + 1, .nil => .nil
  | _, _, n + 1, .cons r t => .cons r (Drs.take n t)
theorem Drs.drop {F : Hp} : ∀ {xs : List V} {ds : List PyData} (n : Nat), Drs F xs ds → Drs F (xs.drop n) (ds.drop n)
  | _, _, 0, r => r
  | _, _, _ + 1, .nil => .nil
  | _, _, n + 1, .cons _ t => Drs.drop n t
theorem Drs.set {F : Hp} {x : V} {u : PyData} (r : Dr F x u) : ∀ {xs : List V} {us : List PyData} (i : Nat), Drs F xs us → Drs F (xs.set i x) (us.set i u)
  | _, _, _, .nil => .nil
  | _, _, 0, .cons _ t => .cons r t
  | _, _, i + 1, .cons q t => .cons q (Drs.set r i t)
theorem Drs.reverse {F : Hp} : ∀ {xs : List V} {ds : List PyData}, Drs F xs ds → Drs F xs.reverse ds.reverse
  | _, _, .nil => .nil
  | _, _, .cons r t => by
    rw [List.reverse_cons, List.reverse_cons]
    exact Drs.append (Drs.reverse t) (.cons r .nil)
theorem Drs.reps {F : Hp} {xs : List V} {ds : List PyData} (h : Drs F xs ds) : ∀ n : Nat, Drs F (List.replicate n xs).flatten (List.replicate n ds).flatten
  | 0 => .nil
  | n + 1 => by
    rw [List.replicate_succ, List.replicate_succ, List.flatten_cons, List.flatten_cons]
    exact Drs.append h (Drs.reps h n)
theorem Drs.mem {F : Hp} : ∀ {xs : List V} {ds : List PyData} {x : V}, Drs F xs ds → x ∈ xs → ∃ d, d ∈ ds ∧ Dr F x d
  | _, _, _, .nil, h => by cases h
  | _, _, _, .cons r t, h => by
    rcases List.mem_cons.mp h with rfl | h
    · exact ⟨_, List.mem_cons_self, r⟩
    · obtain ⟨d, h1, h2⟩ := Drs.mem t h
      exact ⟨d, List.mem_cons_of_mem _ h1, h2⟩
theorem Drs.ints {F : Hp} : ∀ {xs : List V} {ns : List Int}, Drs F xs (ns.map PyData.int) → xs = ns.map V.int
  | _, [], h => by cases h; rfl
  | _, n :: ns, h => by
    cases h with
    | cons h1 h2 =>
      cases h1
      rw [Drs.ints h2]
      rfl
theorem Drs.of_ints {F : Hp} : ∀ (ns : List Int), Drs F (ns.map V.int) (ns.map PyData.int)
  | [] => .nil
  | n :: ns => .cons (.int n) (Drs.of_ints ns)
theorem intsOf_map : ∀ {ds : List PyData} {ns : List Int}, intsOf ds = some ns → ds = ns.map PyData.int
  | [], ns, h => by cases h; rfl
  | d :: r, ns, h => by
    cases d with
    | int i =>
      unfold intsOf at h
      cases e : intsOf r with
      | none => rw [e] at h; cases h
      | some xs =>
        rw [e] at h
        cases h
        rw [intsOf_map e]
        rfl
    | _ => cases h
theorem boolsOf_map : ∀ {ds : List PyData} {ns : List Bool}, boolsOf ds = some ns → ds = ns.map PyData.bool
  | [], ns, h => by cases h; rfl
  | d :: r, ns, h => by
    cases d with
    | bool i =>
      unfold boolsOf at h
      cases e : boolsOf r with
      | none => rw [e] at h; cases h
      | some xs =>
        rw [e] at h
        cases h
        rw [boolsOf_map e]
        rfl
    | _ => cases h
theorem strOf_map : ∀ {ds : List PyData} {ns : List Str}, strOf ds = some ns → ds = ns.map PyData.str
  | [], ns, h => by cases h; rfl
  | d :: r, ns, h => by
    cases d with
    | str i =>
      unfold strOf at h
      cases e : strOf r with
      | none => rw [e] at h; cases h
      | some xs =>
        rw [e] at h
        cases h
        rw [strOf_map e]
        rfl
    | _ => cases h
theorem Drs.bools {F : Hp} : ∀ {xs : List V} {ns : List Bool}, Drs F xs (ns.map PyData.bool) → xs = ns.map V.bl
  | _, [], h => by cases h; rfl
  | _, n :: ns, h => by
    cases h with
    | cons h1 h2 =>
      cases h1
      rw [Drs.bools h2]
      rfl
theorem Drs.strs {F : Hp} : ∀ {xs : List V} {ns : List Str}, Drs F xs (ns.map PyData.str) → xs = ns.map V.str
  | _, [], h => by cases h; rfl
  | _, n :: ns, h => by
    cases h with
    | cons h1 h2 =>
      cases h1
      rw [Drs.strs h2]
      rfl
theorem Drs.of_strs {F : Hp} : ∀ (ns : List Str), Drs F (ns.map V.str) (ns.map PyData.str)
  | [] => .nil
  | n :: ns => .cons (.str n) (Drs.of_strs ns)

mutual
theorem same_eq : ∀ (x y : PyData), same x y = true → x = y
  | .none, y, h => by cases y <;> first | rfl | (simp [same] at h)
  | .bool a, y, h => by cases y <;> first | (simp [same] at h; done) | (simp [same] at h; subst h; rfl)
  | .int a, y, h => by cases y <;> first | (simp [same] at h; done) | (simp [same] at h; subst h; rfl)
  | .str a, y, h => by cases y <;> first | (simp [same] at h; done) | (simp [same] at h; subst h; rfl)
  | .list a, y, h => by
    cases y <;> first
      | (simp [same] at h; done)
      | (rename_i b; rw [sames_eq a b (by simpa [same] using h)])
  | .tuple a, y, h => by
    cases y <;> first
      | (simp [same] at h; done)
      | (rename_i b; rw [sames_eq a b (by simpa [same] using h)])
  | .dict a, y, h => by
    cases y <;> first
      | (simp [same] at h; done)
      | (rename_i b; rw [sameKv_eq a b (by simpa [same] using h)])
theorem sames_eq : ∀ (x y : List PyData), sames x y = true → x = y
  | [], y, h => by cases y <;> first | rfl | (simp [sames] at h)
  | a :: r, y, h => by
    cases y with
    | nil => simp [sames] at h
    | cons b s =>
      simp only [sames, Bool.and_eq_true] at h
      rw [same_eq a b h.1, sames_eq r s h.2]
theorem sameKv_eq : ∀ (x y : List (PyData × PyData)), sameKv x y = true → x = y
  | [], y, h => by cases y <;> first | rfl | (simp [sameKv] at h)
  | (a, b) :: r, y, h => by
    cases y with
    | nil => simp [sameKv] at h
    | cons q s =>
      obtain ⟨c, d⟩ := q
      simp only [sameKv, Bool.and_eq_true] at h
      rw [same_eq a c h.1, same_eq b d h.2.1, sameKv_eq r s h.2.2]
end
mutual
theorem same_refl : ∀ x : PyData, same x x = true
  | .none => rfl
  | .bool a => by simp [same]
  | .int a => by simp [same]
  | .str a => by simp [same]
  | .list a => by simp [same, sames_refl a]
  | .tuple a => by simp [same, sames_refl a]
  | .dict a => by simp [same, sameKv_refl a]
theorem sames_refl : ∀ x : List PyData, sames x x = true
  | [] => rfl
  | a :: r => by simp [sames, same_refl a, sames_refl r]
theorem sameKv_refl : ∀ x : List (PyData × PyData), sameKv x x = true
  | [] => rfl
  | (a, b) :: r => by simp [sameKv, same_refl a, same_refl b, sameKv_refl r]
end

/-! ### keys of dicts -/
mutual
def nkey : PyData → NestedKey
  | .int i => .num i
  | .tuple xs => .tup (nkeys xs)
  | .none => .none
  | .bool _ => .none
  | .str _ => .none
  | .list _ => .none
  | .dict _ => .none
def nkeys : List PyData → List NestedKey
  | [] => []
  | x :: xs => nkey x :: nkeys xs
end
mutual
theorem nkey_inj : ∀ (n : Nat) (x y : PyData), keyOk n x = true → keyOk n y = true → nkey x = nkey y → x = y
  | n, .int i, y, _, hy, h => by
    cases y with
    | int j =>
      simp only [nkey, NestedKey.num.injEq] at h
      rw [h]
    | tuple ys => simp [nkey] at h
    | _ => cases n <;> simp [keyOk] at hy
  | n, .tuple xs, y, hx, hy, h => by
    cases y with
    | int j => simp [nkey] at h
    | tuple ys =>
      simp only [nkey, NestedKey.tup.injEq] at h
      cases n with
      | zero => simp [keyOk] at hx
      | succ n => rw [nkeys_inj n xs ys (by simpa [keyOk] using hx) (by simpa [keyOk] using hy) h]
    | _ => cases n <;> simp [keyOk] at hy
  | n, .none, _, hx, _, _ => by cases n <;> simp [keyOk] at hx
  | n, .bool _, _, hx, _, _ => by cases n <;> simp [keyOk] at hx
  | n, .str _, _, hx, _, _ => by cases n <;> simp [keyOk] at hx
  | n, .list _, _, hx, _, _ => by cases n <;> simp [keyOk] at hx
  | n, .dict _, _, hx, _, _ => by cases n <;> simp [keyOk] at hx
theorem nkeys_inj : ∀ (n : Nat) (x y : List PyData), keysOk n x = true → keysOk n y = true → nkeys x = nkeys y → x = y
  | _, [], [], _, _, _ => rfl
  | _, [], _ :: _, _, _, h => by simp [nkeys] at h
  | _, _ :: _, [], _, _, h => by simp [nkeys] at h
  | n, a :: r, b :: s, hx, hy, h => by
    simp only [nkeys, List.cons.injEq] at h
    simp only [keysOk, Bool.and_eq_true] at hx hy
    rw [nkey_inj n a b hx.1 hy.1 h.1, nkeys_inj n r s hx.2 hy.2 h.2]
end
theorem tupKey_inj {x y : PyData} (hx : tupKey x = true) (hy : tupKey y = true) (h : nkey x = nkey y) : x = y := by
  simp only [tupKey, Bool.and_eq_true] at hx hy
  exact nkey_inj 6 x y hx.2 hy.2 h
mutual
theorem nkey_depth : ∀ (n : Nat) (x : PyData), keyOk n x = true → (nkey x).depth ≤ n
  | n, .int i, _ => by simp [nkey, NestedKey.depth]
  | n, .tuple xs, h => by
    cases n with
    | zero => simp [keyOk] at h
    | succ n =>
      have := nkeys_depth n xs (by simpa [keyOk] using h)
      simp only [nkey, NestedKey.depth]
      omega
  | n, .none, hx => by cases n <;> simp [keyOk] at hx
  | n, .bool _, hx => by cases n <;> simp [keyOk] at hx
  | n, .str _, hx => by cases n <;> simp [keyOk] at hx
  | n, .list _, hx => by cases n <;> simp [keyOk] at hx
  | n, .dict _, hx => by cases n <;> simp [keyOk] at hx
theorem nkeys_depth : ∀ (n : Nat) (x : List PyData), keysOk n x = true → NestedKey.depthAll (nkeys x) ≤ n
  | _, [], _ => by simp [nkeys, NestedKey.depthAll]
  | n, a :: r, hx => by
    simp only [keysOk, Bool.and_eq_true] at hx
    have h1 := nkey_depth n a hx.1
    have h2 := nkeys_depth n r hx.2
    simp only [nkeys, NestedKey.depthAll]
    omega
end

/-! ### the heap without the cells -/
def Fz (M : List Addr) (H : Hp) : Hp := fun a => if a ∈ M then none else H a
theorem Fz_sub {M : List Addr} {H : Hp} : Sub (Fz M H) H := fun a o h => by
  unfold Fz at h
  split at h
  · cases h
  · exact h
theorem Fz_of {M : List Addr} {H : Hp} {a : Addr} {o : HO} (h : H a = some o) (n : a ∉ M) : Fz M H a = some o := by
  unfold Fz
  rw [if_neg n]
  exact h
theorem Fz_at {M : List Addr} {H : Hp} {a : Addr} {o : HO} (h : Fz M H a = some o) : H a = some o ∧ a ∉ M := by
  unfold Fz at h
  split at h
  · cases h
  · rename_i n
    exact ⟨h, n⟩
theorem Fz_in {M : List Addr} {H : Hp} {a : Addr} {o : HO} (m : a ∈ M) : Fz M (upd H a o) = Fz M H := by
  funext b
  unfold Fz
  split
  · rfl
  · rename_i n
    rw [upd_ne (fun e => n (by rw [e]; exact m))]
/-- from one moment to a later one: cells may have come, what is no cell stands -/
structure Ext (M : List Addr) (H : Hp) (M' : List Addr) (H' : Hp) : Prop where
  pre : ∃ L, M' = M ++ L ∧ ∀ a ∈ L, H a = none
  old : ∀ a o, a ∉ M → H a = some o → H' a = some o
  dom : ∀ a, H' a = none → H a = none
theorem Ext.refl (M : List Addr) (H : Hp) : Ext M H M H := ⟨⟨[], (List.append_nil _).symm, fun _ h => nomatch h⟩, fun _ _ _ h => h, fun _ h => h⟩
theorem Ext.trans {M M1 M2 : List Addr} {H H1 H2 : Hp} (a : Ext M H M1 H1) (b : Ext M1 H1 M2 H2) : Ext M H M2 H2 := by
  obtain ⟨L, e1, f1⟩ := a.pre
  obtain ⟨L', e2, f2⟩ := b.pre
  refine ⟨⟨L ++ L', by rw [e2, e1, List.append_assoc], fun c hc => ?_⟩, fun c o n h => ?_, fun c h => a.dom c (b.dom c h)⟩
  · rcases List.mem_append.mp hc with h | h
    · exact f1 c h
    · exact a.dom c (f2 c h)
  · refine b.old c o (fun hm => ?_) (a.old c o n h)
    rw [e1] at hm
    rcases List.mem_append.mp hm with q | q
    · exact n q
    · rw [f1 c q] at h
      cases h
theorem Ext.fz {M M' : List Addr} {H H' : Hp} (x : Ext M H M' H') : Sub (Fz M H) (Fz M' H') := fun a o h => by
  obtain ⟨h1, n⟩ := Fz_at h
  refine Fz_of (x.old a o n h1) fun hm => ?_
  obtain ⟨L, e, f⟩ := x.pre
  rw [e] at hm
  rcases List.mem_append.mp hm with q | q
  · exact n q
  · rw [f a q] at h1
    cases h1
theorem Ext.get {M M' : List Addr} {H H' : Hp} (x : Ext M H M' H') {n : Nat} {a : Addr} (h : M[n]? = some a) : M'[n]? = some a := by
  obtain ⟨L, e, _⟩ := x.pre
  have hn : n < M.length := (List.getElem?_eq_some_iff.mp h).1
  rw [e, List.getElem?_append_left hn]
  exact h
theorem Ext.new {M : List Addr} {H : Hp} {p : Addr} {o : HO} (h : H p = none) : Ext M H M (upd H p o) :=
  ⟨⟨[], (List.append_nil _).symm, fun _ z => nomatch z⟩, fun a u _ q => by rw [upd_ne (ne_of_none q h)]; exact q, fun a q => by
    by_cases e : a = p
    · rw [e]; exact h
    · rw [upd_ne e] at q; exact q⟩
theorem Ext.cell {M : List Addr} {H : Hp} {p : Addr} {o : HO} (h : H p = none) : Ext M H (M ++ [p]) (upd H p o) :=
  ⟨⟨[p], rfl, fun a z => by rw [List.mem_singleton.mp z]; exact h⟩, (Ext.new (M := M) (o := o) h).old, (Ext.new (M := M) (o := o) h).dom⟩
theorem Ext.put {M : List Addr} {H : Hp} {p : Addr} {o u : HO} (m : p ∈ M) (h : H p = some u) : Ext M H M (upd H p o) :=
  ⟨⟨[], (List.append_nil _).symm, fun _ z => nomatch z⟩, fun a v n q => by rw [upd_ne (fun e => n (by rw [e]; exact m))]; exact q, fun a q => by
    by_cases e : a = p
    · rw [e, upd_same] at q; cases q
    · rw [upd_ne e] at q; exact q⟩

section
variable (P : Program) (w : World)
/-- the dict at a: its entries as they lie there -/
def DictB (h : Heap) (a : Addr) (xs : List (NestedKey × Addr × Value)) : Prop :=
  ∃ o es ep, h.get? a = some o ∧ o.ExactDict ∧ o.data = .dict es ep ∧ es.toList = xs.map (entryOfKey (nestedKind P w)) ∧ (xs.map (·.1)).Nodup ∧ (a == sysModules) = false ∧ xs.length ≤ sizeLine
def DictO (a : Addr) (xs : List (NestedKey × Addr × Value)) : HO := .ext fun h => DictB P w h a xs
/-- one entry: the key lies at its place, the value too -/
def EntR (F : Hp) (kv : PyData × PyData) (x : NestedKey × Addr × Value) : Prop := tupKey kv.1 = true ∧ x.1 = nkey kv.1 ∧ Dr F (.ref x.2.1) kv.1 ∧ ∃ v, RelV v x.2.2 ∧ Dr F v kv.2
def CellR (F H : Hp) (a : Addr) : Cell → Prop
  | .lst ds => ∃ xs, H a = some (.lst xs) ∧ Drs F xs ds
  | .dict kvs => ∃ xs, H a = some (DictO P w a xs) ∧ Paired (EntR F) kvs xs
structure SRel (M : List Addr) (H : Hp) (st : Store) : Prop where
  len : M.length = st.length
  nd : M.Nodup
  cell : ∀ (n : Nat) (c : Cell) (a : Addr), st[n]? = some c → M[n]? = some a → CellR P w (Fz M H) H a c
end
def EVr (F : Hp) (M : List Addr) (x : V) : EV → Prop
  | .dat d => Dr F x d
  | .loc n => ∃ a, M[n]? = some a ∧ x = .ref a
structure EnvR (F : Hp) (M : List Addr) (env : Env) (σ : L2.St) : Prop where
  len : env.length = σ.length
  at_ : ∀ (i : Nat) (v : EV), env[i]? = some (some v) → ∃ x, σ[i]? = some (some x) ∧ EVr F M x v
section
variable {P : Program} {w : World} {M M' : List Addr} {H H' F F' : Hp} {st st' : Store}
theorem EntR.sub (s : Sub F F') {kv : PyData × PyData} {x : NestedKey × Addr × Value} (h : EntR F kv x) : EntR F' kv x := by
  obtain ⟨h1, h2, h3, v, h4, h5⟩ := h
  exact ⟨h1, h2, Dr.sub s _ _ h3, v, h4, Dr.sub s _ _ h5⟩
theorem EVr.ext (x : Ext M H M' H') {u : V} {v : EV} (h : EVr (Fz M H) M u v) : EVr (Fz M' H') M' u v := by
  cases v with
  | dat d => exact Dr.sub x.fz _ _ h
  | loc n =>
    obtain ⟨a, h1, h2⟩ := h
    exact ⟨a, x.get h1, h2⟩
theorem EnvR.ext (x : Ext M H M' H') {env : Env} {σ : L2.St} (h : EnvR (Fz M H) M env σ) : EnvR (Fz M' H') M' env σ :=
  ⟨h.len, fun i v e => by
    obtain ⟨u, h1, h2⟩ := h.at_ i v e
    exact ⟨u, h1, h2.ext x⟩⟩
theorem EnvR.set {env : Env} {σ : L2.St} (h : EnvR F M env σ) {v : EV} {x : V} (r : EVr F M x v) (i : Nat) : EnvR F M (env.set i (some v)) (σ.set i (some x)) := by
  refine ⟨by rw [List.length_set, List.length_set, h.len], fun j u e => ?_⟩
  by_cases hj : i = j
  · subst hj
    by_cases hi : i < env.length
    · rw [List.getElem?_set_self hi] at e
      have ev : v = u := Option.some.inj (Option.some.inj e)
      subst ev
      exact ⟨x, by rw [List.getElem?_set_self (by rw [← h.len]; exact hi)], r⟩
    · rw [List.getElem?_eq_none (by rw [List.length_set]; omega)] at e
      cases e
  · rw [List.getElem?_set_ne hj] at e
    obtain ⟨y, h1, h2⟩ := h.at_ j u e
    exact ⟨y, by rw [List.getElem?_set_ne hj]; exact h1, h2⟩
theorem EnvR.unset {env : Env} {σ : L2.St} (h : EnvR F M env σ) (i : Nat) : EnvR F M (env.set i none) (σ.set i none) := by
  refine ⟨by rw [List.length_set, List.length_set, h.len], fun j u e => ?_⟩
  by_cases hj : i = j
  · subst hj
    by_cases hi : i < env.length
    · rw [List.getElem?_set_self hi] at e
      cases e
    · rw [List.getElem?_eq_none (by rw [List.length_set]; omega)] at e
      cases e
  · rw [List.getElem?_set_ne hj] at e
    obtain ⟨y, h1, h2⟩ := h.at_ j u e
    exact ⟨y, by rw [List.getElem?_set_ne hj]; exact h1, h2⟩
theorem EnvR.wipe {env : Env} {σ : L2.St} (h : EnvR F M env σ) : ∀ vs : List Nat, EnvR F M (wipeE env vs) (wipe σ vs)
  | [] => h
  | v :: vs => (EnvR.wipe h vs).unset v
theorem SRel.obj (S : SRel P w M H st) {n : Nat} {a : Addr} (h : M[n]? = some a) : ∃ o, H a = some o := by
  have hn : n < M.length := (List.getElem?_eq_some_iff.mp h).1
  have hs : n < st.length := by rw [← S.len]; exact hn
  have q := S.cell n _ a (List.getElem?_eq_getElem hs) h
  generalize st[n] = c at q
  cases c with
  | lst ds =>
    obtain ⟨xs, h1, _⟩ := q
    exact ⟨_, h1⟩
  | dict kvs =>
    obtain ⟨xs, h1, _⟩ := q
    exact ⟨_, h1⟩
theorem SRel.out (S : SRel P w M H st) {p : Addr} (h : H p = none) : p ∉ M := fun hm => by
  obtain ⟨n, hn, e⟩ := List.getElem_of_mem hm
  obtain ⟨o, q⟩ := S.obj (n := n) (a := p) (by rw [List.getElem?_eq_getElem hn, e])
  rw [h] at q
  cases q
theorem CellR.mono (s : Sub F F') {a : Addr} (e : H' a = H a) {c : Cell} (h : CellR P w F H a c) : CellR P w F' H' a c := by
  cases c with
  | lst ds =>
    obtain ⟨xs, h1, h2⟩ := h
    exact ⟨xs, e.trans h1, Drs.sub s _ _ h2⟩
  | dict kvs =>
    obtain ⟨xs, h1, h2⟩ := h
    exact ⟨xs, e.trans h1, Paired.mapP h2 fun _ _ q => q.sub s⟩
/-- a new object that is no cell -/
theorem SRel.new (S : SRel P w M H st) {p : Addr} {o : HO} (h : H p = none) : SRel P w M (upd H p o) st :=
  ⟨S.len, S.nd, fun n c a h1 h2 => by
    obtain ⟨u, q⟩ := S.obj h2
    exact (S.cell n c a h1 h2).mono (Ext.new (M := M) (o := o) h).fz (upd_ne (ne_of_none q h))⟩
/-- a new cell -/
theorem SRel.push (S : SRel P w M H st) {p : Addr} {o : HO} {c : Cell} (h : H p = none) (hc : CellR P w (Fz (M ++ [p]) (upd H p o)) (upd H p o) p c) : SRel P w (M ++ [p]) (upd H p o) (st ++ [c]) := by
  have np := S.out h
  refine ⟨by rw [List.length_append, List.length_append, S.len]; rfl, ?_, fun n c' a h1 h2 => ?_⟩
  · rw [List.nodup_append]
    refine ⟨S.nd, by simp, fun a ha b hb => ?_⟩
    rw [List.mem_singleton.mp hb]
    exact fun e => np (by rw [← e]; exact ha)
  · by_cases hn : n < M.length
    · rw [List.getElem?_append_left hn] at h2
      rw [List.getElem?_append_left (by rw [← S.len]; exact hn)] at h1
      obtain ⟨u, q⟩ := S.obj h2
      exact (S.cell n c' a h1 h2).mono (Ext.cell (M := M) (o := o) h).fz (upd_ne (ne_of_none q h))
    · rw [List.getElem?_append_right (by omega)] at h2
      rw [List.getElem?_append_right (by rw [← S.len]; omega)] at h1
      rw [S.len] at h2
      cases q : n - st.length with
      | zero =>
        rw [q] at h1 h2
        cases h1
        cases h2
        exact hc
      | succ k =>
        rw [q] at h1
        simp at h1
/-- a cell is written -/
theorem SRel.put (S : SRel P w M H st) {n : Nat} {p : Addr} {o : HO} {c : Cell} (h : M[n]? = some p) (hc : CellR P w (Fz M H) (upd H p o) p c) : SRel P w M (upd H p o) (st.set n c) := by
  have mp : p ∈ M := List.mem_of_getElem? h
  refine ⟨by rw [List.length_set, S.len], S.nd, fun m c' a h1 h2 => ?_⟩
  rw [Fz_in mp]
  by_cases hm : n = m
  · subst hm
    have hn : n < st.length := by rw [← S.len]; exact (List.getElem?_eq_some_iff.mp h).1
    rw [List.getElem?_set_self hn] at h1
    cases h1
    have e : a = p := Option.some.inj (h2.symm.trans h)
    subst e
    exact hc
  · rw [List.getElem?_set_ne hm] at h1
    have ne : a ≠ p := fun e => by
      subst e
      obtain ⟨i1, e1⟩ := List.getElem?_eq_some_iff.mp h
      obtain ⟨i2, e2⟩ := List.getElem?_eq_some_iff.mp h2
      exact hm ((List.getElem_inj S.nd).mp (e1.trans e2.symm))
    exact (S.cell m c' a h1 h2).mono (Sub.refl _) (upd_ne ne)
/-- the youngest cells forgotten -/
theorem SRel.take (S : SRel P w M H st) (n : Nat) : SRel P w (M.take n) H (st.take n) := by
  have sb : Sub (Fz M H) (Fz (M.take n) H) := fun a o h => by
    obtain ⟨h1, h2⟩ := Fz_at h
    exact Fz_of h1 fun hm => h2 (List.mem_of_mem_take hm)
  refine ⟨by rw [List.length_take, List.length_take, S.len], S.nd.sublist (List.take_sublist _ _), fun m c a h1 h2 => ?_⟩
  rw [List.getElem?_take] at h1 h2
  split at h1
  · rename_i hm
    rw [if_pos hm] at h2
    exact (S.cell m c a h1 h2).mono sb rfl
  · cases h1
theorem Ext.take (S : SRel P w M H st) (x : Ext M H M' H') : Ext M H (M'.take M.length) H' := by
  obtain ⟨L, e, f⟩ := x.pre
  have q : M'.take M.length = M := by rw [e, List.take_left']; rfl
  rw [q]
  exact ⟨⟨[], (List.append_nil _).symm, fun _ z => nomatch z⟩, x.old, x.dom⟩
/-- what a value reads as now -/
theorem rd_dr (S : SRel P w M H st) {x : V} {v : EV} (h : EVr (Fz M H) M x v) {d : PyData} (e : rd st v = some d) : Dr H x d := by
  cases v with
  | dat d' =>
    have e' : d' = d := Option.some.inj e
    subst e'
    exact Dr.sub Fz_sub _ _ h
  | loc n =>
    obtain ⟨a, h1, rfl⟩ := h
    unfold rd at e
    dsimp only at e
    cases q : st[n]? with
    | none => rw [q] at e; cases e
    | some c =>
      rw [q] at e
      cases c with
      | dict kvs => cases e
      | lst ds =>
        cases e
        obtain ⟨xs, g1, g2⟩ := S.cell n _ a q h1
        exact .lst (.inl g1) (Drs.sub Fz_sub _ _ g2)
end

section
variable {P : Program} {w : World} {M : List Addr} {H H' : Hp} {st : Store}
theorem Ext.sup (h : ∀ a o, H a = some o → H' a = some o) : Ext M H M H' := ⟨⟨[], (List.append_nil _).symm, fun _ q => nomatch q⟩, fun a o _ q => h a o q, fun a q => by
  cases e : H a with
  | none => rfl
  | some o => rw [h a o e] at q; cases q⟩
theorem SRel.sup (S : SRel P w M H st) (h : ∀ a o, H a = some o → H' a = some o) : SRel P w M H' st :=
  ⟨S.len, S.nd, fun n c a h1 h2 => by
    obtain ⟨u, q⟩ := S.obj h2
    exact (S.cell n c a h1 h2).mono (Ext.sup (M := M) h).fz ((h a u q).trans q.symm)⟩
end
end PD

set_option Elab.async false
set_option linter.all false
set_option maxRecDepth 100000
set_option maxHeartbeats 1000000
/-! The evaluator's operations, each by the layer's rule. -/
namespace PD
open PySem PySem.Spec PyProof.Rows L2

section
variable (P : Program) (w : World)
/-- what is wanted of an answer; rel: how it lies in the heap -/
def OkG {α β : Type} (rel : List Addr → Hp → β → α → Prop) (M : List Addr) (H : Hp) (r : R α) (Q : β → Hp → Prop) (E : Nat → Hp → Prop) : Prop := match r with
  | .ok v st => ∀ M' H' x, Ext M H M' H' → SRel P w M' H' st → rel M' H' x v → Q x H'
  | .exc c st => ∀ M' H', Ext M H M' H' → SRel P w M' H' st → E c H'
  | .err => False
abbrev relV (M : List Addr) (H : Hp) (x : V) (v : EV) : Prop := EVr (Fz M H) M x v
abbrev OkE (M : List Addr) (H : Hp) (r : R EV) (Q : VK) (E : Nat → Hp → Prop) : Prop := OkG P w relV M H r Q E
end
section
variable {P : Program} {w : World} {M M' : List Addr} {H H' : Hp} {st : Store} {Q : VK} {E : Nat → Hp → Prop}
theorem OkG.ext {α β : Type} {rel : List Addr → Hp → β → α → Prop} {Q : β → Hp → Prop} {r : R α} (x : Ext M H M' H') (h : OkG P w rel M H r Q E) : OkG P w rel M' H' r Q E := by
  cases r with
  | ok v st => exact fun M2 H2 u x2 S2 r2 => h M2 H2 u (x.trans x2) S2 r2
  | exc c st => exact fun M2 H2 x2 S2 => h M2 H2 (x.trans x2) S2
  | err => exact h
theorem OkG.imp {α β : Type} {rel : List Addr → Hp → β → α → Prop} {Q Q' : β → Hp → Prop} {E' : Nat → Hp → Prop} {r : R α} (h : OkG P w rel M H r Q E) (hq : ∀ x H', Q x H' → Q' x H') (he : ∀ c H', E c H' → E' c H') : OkG P w rel M H r Q' E' := by
  cases r with
  | ok v st => exact fun M2 H2 u x2 S2 r2 => hq _ _ (h M2 H2 u x2 S2 r2)
  | exc c st => exact fun M2 H2 x2 S2 => he _ _ (h M2 H2 x2 S2)
  | err => exact h
/-- one step, and what is wanted of the rest -/
theorem OkG.step {α β α' β' : Type} {rel : List Addr → Hp → β → α → Prop} {rel' : List Addr → Hp → β' → α' → Prop} {Q : β → Hp → Prop} {r : R α'} {k : α' → Store → R α} (h : OkG P w rel M H (r.bind k) Q E) {Q' : β' → Hp → Prop}
    (hq : ∀ M1 H1 st1 x v, Ext M H M1 H1 → SRel P w M1 H1 st1 → rel' M1 H1 x v → OkG P w rel M1 H1 (k v st1) Q E → Q' x H1) : OkG P w rel' M H r Q' E := by
  cases r with
  | ok v st => exact fun M2 H2 u x2 S2 r2 => hq M2 H2 st u v x2 S2 r2 (OkG.ext x2 h)
  | exc c st => exact h
  | err => exact h
theorem OkE.ext {r : R EV} (x : Ext M H M' H') (h : OkE P w M H r Q E) : OkE P w M' H' r Q E := OkG.ext x h
theorem OkE.now {v : EV} {x : V} (h : OkE P w M H (.ok v st) Q E) (S : SRel P w M H st) (r : EVr (Fz M H) M x v) : Q x H := h M H x (Ext.refl M H) S r
theorem OkE.newL {xs : List V} {ds : List PyData} (h : OkE P w M H (.ok (.dat (.list ds)) st) Q E) (S : SRel P w M H st) (hd : Drs (Fz M H) xs ds) (p : Addr) (hp : H p = none) : Q (.ref p) (upd H p (.lst xs)) := by
  have x : Ext M H M (upd H p (.lst xs)) := Ext.new hp
  exact h M _ _ x (S.new hp) (.lst (.inl (Fz_of upd_same (S.out hp))) (Drs.sub x.fz _ _ hd))
theorem OkE.newT {xs : List V} {ds : List PyData} (h : OkE P w M H (.ok (.dat (.tuple ds)) st) Q E) (S : SRel P w M H st) (hd : Drs (Fz M H) xs ds) (p : Addr) (hp : H p = none) : Q (.ref p) (upd H p (.tup xs)) := by
  have x : Ext M H M (upd H p (.tup xs)) := Ext.new hp
  exact h M _ _ x (S.new hp) (.tup (Fz_of upd_same (S.out hp)) (Drs.sub x.fz _ _ hd))
theorem OkE.cellL {xs : List V} {ds : List PyData} (h : OkE P w M H (.ok (.loc st.length) (st ++ [.lst ds])) Q E) (S : SRel P w M H st) (hd : Drs (Fz M H) xs ds) (p : Addr) (hp : H p = none) : Q (.ref p) (upd H p (.lst xs)) := by
  have x : Ext M H (M ++ [p]) (upd H p (.lst xs)) := Ext.cell hp
  refine h _ _ _ x (S.push hp ⟨xs, upd_same, Drs.sub x.fz _ _ hd⟩) ⟨p, ?_, rfl⟩
  rw [← S.len, List.getElem?_append_right (Nat.le_refl _), Nat.sub_self]
  rfl
/-- what a value reads as now, its items apart from the cells -/
inductive Top (F H : Hp) : V → PyData → Prop where
  | lst {a : Addr} {xs : List V} {ds : List PyData} : Rd H a (.lst xs) → Drs F xs ds → Top F H (.ref a) (.list ds)
  | oth {v : V} {d : PyData} : Dr F v d → (∀ ds, d ≠ .list ds) → Top F H v d
theorem rd_top (S : SRel P w M H st) {x : V} {v : EV} (h : EVr (Fz M H) M x v) {d : PyData} (e : rd st v = some d) : Top (Fz M H) H x d := by
  cases v with
  | dat d' =>
    have e' : d' = d := Option.some.inj e
    subst e'
    cases d' with
    | list ds =>
      cases h with
      | lst h1 h2 => exact .lst (Rd.sub Fz_sub h1) h2
    | _ => exact .oth h (fun ds => by simp)
  | loc n =>
    obtain ⟨a, h1, rfl⟩ := h
    unfold rd at e
    dsimp only at e
    cases q : st[n]? with
    | none => rw [q] at e; cases e
    | some c =>
      rw [q] at e
      cases c with
      | dict kvs => cases e
      | lst ds =>
        cases e
        obtain ⟨xs, g1, g2⟩ := S.cell n _ a q h1
        exact .lst (.inl g1) g2
theorem Top.list {F : Hp} {x : V} {ds : List PyData} (h : Top F H x (.list ds)) : ∃ a xs, x = .ref a ∧ Rd H a (.lst xs) ∧ Drs F xs ds := by
  cases h with
  | lst h1 h2 => exact ⟨_, _, rfl, h1, h2⟩
  | oth h n => exact absurd rfl (n ds)
theorem Top.tuple {F : Hp} {x : V} {ds : List PyData} (h : Top F H x (.tuple ds)) : ∃ a xs, x = .ref a ∧ F a = some (.tup xs) ∧ Drs F xs ds := by
  cases h with
  | oth h n =>
    cases h with
    | tup h1 h2 => exact ⟨_, _, rfl, h1, h2⟩
theorem Top.int {F : Hp} {x : V} {i : Int} (h : Top F H x (.int i)) : x = .int i := by
  cases h with
  | oth h n => cases h; rfl
theorem Top.str {F : Hp} {x : V} {i : Str} (h : Top F H x (.str i)) : x = .str i := by
  cases h with
  | oth h n => cases h; rfl
theorem Top.bool {F : Hp} {x : V} {i : Bool} (h : Top F H x (.bool i)) : x = .bl i := by
  cases h with
  | oth h n => cases h; rfl
theorem Top.none {F : Hp} {x : V} (h : Top F H x .none) : x = .non := by
  cases h with
  | oth h n => cases h; rfl
theorem Top.dr {F : Hp} (s : Sub F H) {x : V} {d : PyData} (h : Top F H x d) : Dr H x d := by
  cases h with
  | lst h1 h2 => exact .lst h1 (Drs.sub s _ _ h2)
  | oth h n => exact Dr.sub s _ _ h
theorem OkE.same {x : V} {d : PyData} (h : OkE P w M H (.ok (.dat d) st) Q E) (S : SRel P w M H st) (r : Dr (Fz M H) x d) : Q x H := h.now S r
end

theorem lim_line : LIM ≤ sizeLine := by
  rw [sizeLine_eq]
  decide
section
variable {X : Cx}
abbrev SR (X : Cx) := SRel X.prog X.w
abbrev OkX (X : Cx) := OkE X.prog X.w
theorem Inv.lstR {pins : List (Addr × Obj)} {σ : L2.St} {H : Hp} {s : Shared} {l : Addr} {xs : List V} (I : Inv X pins σ H s) (hH : Rd H l (.lst xs)) : xs.length ≤ sizeLine ∧ ∃ (its : List Value) (n : Nat), Vals xs its ∧ xs.length = its.length ∧ s.heap.get? l = some { cls := .type "list", data := .seq its.toArray n } := by
  have q : ObjOk X.prog X.w H s.heap l (.lst xs) := hH.ok I.hok
  obtain ⟨z, its, n, r, e⟩ := q
  exact ⟨z, its, n, r, r.length, e⟩
/-- list + list, wherever they stand -/
def rCatR : R2 := fun x y H Q => ∃ l b xs zs, x = .ref l ∧ y = .ref b ∧ Rd H l (.lst xs) ∧ Rd H b (.lst zs) ∧ xs.length + zs.length ≤ sizeLine ∧ ∀ p, H p = none → Q (.ref p) (upd H p (.lst (xs ++ zs)))
theorem op_catR : OpR X (binaryOp .Add) rCatR := by
  intro pins s σ H x y v u Q I rx ry ⟨l, b, xs, zs, ex, ey, hl, hb, hz, q⟩
  subst ex ey
  cases rx
  cases ry
  obtain ⟨_, its, n, r, len1, g1⟩ := Inv.lstR I hl
  obtain ⟨_, its2, n2, r2, len2, g2⟩ := Inv.lstR I hb
  have hsz : its.toArray.size + its2.toArray.size ≤ sizeLine := by
    rw [List.size_toArray, List.size_toArray, ← len1, ← len2]
    exact hz
  refine PySem.P.add_list g1 g2 ?_ hsz
  have ea : its.toArray ++ its2.toArray = (its ++ its2).toArray := by simp
  rw [ea]
  exact ⟨.ref _, _, I.lnew (t' := s.toks) (r.append r2) (by rw [List.length_append]; exact hz), rfl, q _ I.fresh⟩
/-- list * int, wherever the list stands -/
def rRepR : R2 := fun x y H Q => ∃ l k xs, x = .ref l ∧ y = .int k ∧ Rd H l (.lst xs) ∧ -(2 ^ 63) ≤ k ∧ k < 2 ^ 63 ∧ xs.length * k.toNat ≤ sizeLine ∧
    ∀ p, H p = none → Q (.ref p) (upd H p (.lst (List.replicate k.toNat xs).flatten))
theorem op_repR : OpR X (binaryOp .Mult) rRepR := by
  intro pins s σ H x y v u Q I rx ry ⟨l, k, xs, ex, ey, hl, k1, k2, hz, q⟩
  subst ex ey
  cases rx
  obtain ⟨t, rfl⟩ := ry
  obtain ⟨_, its, n, r, len1, g⟩ := Inv.lstR I hl
  have lsz : its.toArray.size * k.toNat ≤ sizeLine := by
    rw [List.size_toArray, ← len1]
    exact hz
  have top63 : (sizeLine : Nat) ≤ (2 ^ 63 - 1) / 8 := by decide
  have h1 : ¬ (!Builtin.List.listFitsIndex k) = true := by simp [fitsIndex_both k1 k2]
  have h2 : ¬ Builtin.List.listTooLong (its.toArray.size * k.toNat) = true := by
    rw [notLongL lsz]
    decide
  have h3 : ¬ its.toArray.size * k.toNat > (2 ^ 63 - 1) / 8 := Nat.not_lt.mpr (Nat.le_trans lsz top63)
  have flat : ∀ m : Nat, List.foldl (fun a b => a ++ b) #[] (List.replicate m its.toArray) = (List.replicate m its).flatten.toArray := fun m => by simpa using foldl_rep its m []
  have made : List.foldl (fun a b => a ++ b) #[] (List.replicate (if its.toArray.isEmpty = true then 0 else k.toNat) its.toArray) = (List.replicate k.toNat its).flatten.toArray := by
    rw [flat]
    cases its <;> simp
  have here : s.TypeIs (.ref l) "list" := ⟨_, g, rfl⟩
  refine wpAny_binaryOp_repeat_ref (T := "list") (U := "int") (by decide) here
    (fun s' => typeIs_int s' k t) noFill_list_mul F.fills_int_mul F.slot_int_rmul repeat_list F.slot_int_index.lookup ?_
  refine call_meets F.slot_int_rmul (typeIs_int s k t) F.entry_int_rmul (F.args_int_rmul_2 _ _)
    (int___rmul___int_list k t l its.toArray n) ⟨g, rfl, here, call_meets F.slot_list_mul here F.entry_list_mul (F.args_list_mul_2 _ _)
      (AutoListH.list___mul___list_int_3 l its.toArray n k t h1 h3 h2) ⟨g, ?_⟩⟩
  rw [made]
  refine ⟨.ref _, _, I.lnew (t' := s.toks) (r.rep k.toNat) ?_, rfl, q _ I.fresh⟩
  rw [PyProof.Rows.lm_len_rep_flat, Nat.mul_comm]
  exact hz
end
/-! ### tuple * 1 -/
theorem tuple_by1 (l : Addr) (items : Array Value) (n : Nat) (dd : Option Addr) (sl : Array (Option Value)) (u : Tok) :
    Meets (Builtin.«tuple.__mul__» ⟨[.ref l, .int 1 u], []⟩) (fun _ R s =>
      s.heap.get? l = some { cls := .type "tuple", dict := dd, data := .seq items n, slots := sl } ∧ R (.ok (.ret (Value.ref l))) s) :=
  .of_wp fun prog w A R s h => by
    obtain ⟨hp, g, d, tk, os⟩ := s
    obtain ⟨hl, h⟩ := h
    have idx := AutoSeq1.idx_int
    wp_walk using wpAny_loadPart' hl
    repeat (first
      | (refine wpAny_ite_false (by simp) ?_
         wp_walk using wpAny_loadPart' hl)
      | (refine wpAny_ite_true (by simp) ?_
         wp_walk using wpAny_loadPart' hl))
    exact ⟨_, rfl, h⟩
end PD

set_option Elab.async false
set_option linter.all false
set_option maxRecDepth 100000
set_option maxHeartbeats 1000000
/-! Operators, comparisons, subscripts. -/
namespace PD
open PySem PySem.Spec PyProof.Rows L2
section
variable {X : Cx}
theorem op_repT1 : OpR X (binaryOp .Mult) (fun x y H Q => ∃ l xs, x = .ref l ∧ y = .int 1 ∧ SqT X.K H l xs ∧ Q (.ref l) H) := by
  intro pins s σ H x y v u Q I rx ry ⟨l, xs, ex, ey, hT, q⟩
  subst ex ey
  cases rx
  obtain ⟨t, rfl⟩ := ry
  obtain ⟨its, r, ⟨⟨cls, dd, data, sl⟩, ho, hc, n, hd⟩, hs⟩ := I.tuple hT
  dsimp only at hc hd
  subst hc hd
  have here : s.TypeIs (.ref l) "tuple" := ⟨_, ho, rfl⟩
  refine wpAny_binaryOp_repeat_ref (T := "tuple") (U := "int") (by decide) here (fun s' => typeIs_int s' 1 t) noFill_tuple_mul F.fills_int_mul F.slot_int_rmul
    repeat_tuple F.slot_int_index.lookup ?_
  refine call_meets F.slot_int_rmul (typeIs_int s 1 t) F.entry_int_rmul (F.args_int_rmul_2 _ _) (int_rmul_tuple 1 t l its.toArray n dd sl) ⟨ho, rfl, here, ?_⟩
  exact call_meets F.slot_tuple_mul here F.entry_tuple_mul (F.args_tuple_mul_2 _ _) (tuple_by1 l its.toArray n dd sl t) ⟨ho, .ref l, H, I, rfl, q⟩

/-- an operation on two values whose data are known -/
def rTwo (X : Cx) (f : PyData → PyData → Option PyData) : R2 := fun x y H Q => ∃ M st vx vy dx dy E, SR X M H st ∧ EVr (Fz M H) M x vx ∧ EVr (Fz M H) M y vy ∧ rd st vx = some dx ∧ rd st vy = some dy ∧ OkX X M H (ofO st (f dx dy)) Q E
theorem SqT.fz {K : PySem.W.Frag} {M : List Addr} {H : Hp} {a : Addr} {xs : List V} (h : Fz M H a = some (.tup xs)) : SqT K H a xs := .inl (.inl (Fz_at h).1)
theorem opr_bin (op : Operator) : OpR X (binaryOp op) (rTwo X (binop op)) := by
  intro pins s σ H x y v u Q I rx ry ⟨M, st, vx, vy, dx, dy, E, S, ex, ey, hx, hy, h⟩
  have tx := rd_top S ex hx
  have ty := rd_top S ey hy
  have ll := lim_line
  cases e : binop op dx dy with
  | none =>
    rw [e] at h
    exact h.elim
  | some d =>
    rw [e] at h
    replace h : OkX X M H (.ok (.dat d) st) Q E := h
    unfold binop at e
    split at e
    · cases e
      obtain rfl := tx.int
      obtain rfl := ty.int
      exact op_add pins s σ H _ _ v u Q I rx ry ⟨_, _, rfl, rfl, h.same S (.int _)⟩
    · cases e
      obtain rfl := tx.int
      obtain rfl := ty.int
      exact op_sub pins s σ H _ _ v u Q I rx ry ⟨_, _, rfl, rfl, h.same S (.int _)⟩
    · split at e
      · rename_i i j c
        cases e
        obtain rfl := tx.int
        obtain rfl := ty.int
        refine op_mul pins s σ H _ _ v u Q I rx ry ⟨_, _, rfl, rfl, ?_, h.same S (.int _)⟩
        simp only [small, Bool.or_eq_true, Bool.and_eq_true, decide_eq_true_eq] at c
        exact c
      · cases e
    · split at e
      · rename_i i j c
        cases e
        obtain rfl := tx.int
        obtain rfl := ty.int
        refine op_fdiv pins s σ H _ _ v u Q I rx ry ⟨_, _, rfl, rfl, ?_, h.same S (.int _)⟩
        simp only [Bool.and_eq_true, decide_eq_true_eq] at c
        exact c
      · cases e
    · split at e
      · rename_i i j c
        cases e
        obtain rfl := tx.int
        obtain rfl := ty.int
        exact op_mod pins s σ H _ _ v u Q I rx ry ⟨_, _, rfl, rfl, of_decide_eq_true c, h.same S (.int _)⟩
      · cases e
    · split at e
      · rename_i i j c
        cases e
        obtain rfl := tx.int
        obtain rfl := ty.int
        simp only [Bool.and_eq_true, decide_eq_true_eq] at c
        exact op_pow pins s σ H _ _ v u Q I rx ry ⟨_, _, rfl, rfl, ⟨c.1.1, by omega, c.2⟩, h.same S (.int _)⟩
      · cases e
    · split at e
      · rename_i xs ys c
        cases e
        obtain ⟨a, us, rfl, ha, da⟩ := tx.tuple
        obtain ⟨b, ws, rfl, hb, db⟩ := ty.tuple
        have hl : us.length + ws.length ≤ sizeLine := by
          rw [da.length, db.length]
          exact Nat.le_trans (of_decide_eq_true c) ll
        refine op_catA pins s σ H _ _ v u Q I rx ry ⟨a, b, us, ws, rfl, rfl, SqT.fz ha, SqT.fz hb, hl, fun e => ?_, fun n1 e => ?_, fun n1 n2 p hp => h.newT S (da.append db) p hp⟩
        · subst e
          cases da
          exact h.same S (.tup hb db)
        · subst e
          cases db
          rw [List.append_nil] at h
          exact h.same S (.tup ha da)
      · cases e
    · split at e
      · rename_i xs ys c
        cases e
        obtain ⟨a, us, rfl, ha, da⟩ := tx.list
        obtain ⟨b, ws, rfl, hb, db⟩ := ty.list
        have hl : us.length + ws.length ≤ sizeLine := by
          rw [da.length, db.length]
          exact Nat.le_trans (of_decide_eq_true c) ll
        exact op_catR pins s σ H _ _ v u Q I rx ry ⟨a, b, us, ws, rfl, rfl, ha, hb, hl, fun p hp => h.newL S (da.append db) p hp⟩
      · cases e
    · split at e
      · rename_i xs ys c
        cases e
        obtain rfl := tx.str
        obtain rfl := ty.str
        exact op_add_str pins s σ H _ _ v u Q I rx ry ⟨_, _, rfl, rfl, Nat.le_trans (of_decide_eq_true c) ll, h.same S (.str _)⟩
      · cases e
    · split at e
      · rename_i xs n c
        cases e
        obtain ⟨a, us, rfl, ha, da⟩ := tx.list
        obtain rfl := ty.int
        simp only [Bool.and_eq_true, decide_eq_true_eq] at c
        refine op_repR pins s σ H _ _ v u Q I rx ry ⟨a, n, us, rfl, rfl, ha, c.1.1, c.1.2, ?_, fun p hp => h.newL S (da.reps _) p hp⟩
        rw [da.length]
        exact Nat.le_trans c.2 ll
      · cases e
    · split at e
      · rename_i xs n c
        cases e
        obtain ⟨a, us, rfl, ha, da⟩ := tx.tuple
        obtain rfl := ty.int
        simp only [Bool.and_eq_true, decide_eq_true_eq] at c
        refine op_repT pins s σ H _ _ v u Q I rx ry ⟨a, n, us, rfl, rfl, SqT.fz ha, fun e => ?_, c.1.1.1, c.1.1.2, by rw [da.length]; exact c.1.2, fun p hp => h.newT S (da.reps _) p hp⟩
        subst e
        cases da
        exact absurd c.2 (by decide)
      · split at e
        · rename_i c
          cases e
          obtain ⟨a, us, rfl, ha, da⟩ := tx.tuple
          obtain rfl := ty.int
          have en := of_decide_eq_true c
          subst en
          exact op_repT1 pins s σ H _ _ v u Q I rx ry ⟨a, us, rfl, rfl, SqT.fz ha, h.same S (.tup ha da)⟩
        · cases e
    · cases e

/-! ### comparisons -/
theorem reads_of {pins : List (Addr × Obj)} {σ : L2.St} {H : Hp} {s : Shared} (I : Inv X pins σ H s) {M : List Addr} {st : Store} (S : SR X M H st) {x : V} {v : EV} (ex : EVr (Fz M H) M x v) {d : PyData} (hx : rd st v = some d) {u : Value} (r : RelV x u) : ∃ as, Reads s.heap u d as :=
  Dp.reads I d x u (Dr.dp d x (rd_dr S ex hx)) r
theorem depth_shape {d : PyData} (h : SeqAt.shaped d = true) : d.depth ≤ 64 := SeqAt.depth_of_shaped h
theorem opr_eqd (hu : X.A.units + 64 < cLine) : OpR X (compareOp .Eq) (rTwo X fun x y => (cmpD .Eq x y).map PyData.bool) := by
  intro pins s σ H x y v u Q I rx ry ⟨M, st, vx, vy, dx, dy, E, S, ex, ey, hx, hy, h⟩
  simp only [cmpD, eqD] at h
  by_cases c : shape2 dx dy = true
  · rw [if_pos c] at h
    replace h : OkX X M H (.ok (.dat (.bool _)) st) Q E := h
    simp only [shape2, Bool.and_eq_true] at c
    exact op_eqD hu pins s σ H x y v u Q I rx ry ⟨dx, dy, Dr.dp _ _ (rd_dr S ex hx), Dr.dp _ _ (rd_dr S ey hy), c.1, c.2, h.same S (.bl _)⟩
  · rw [if_neg c] at h
    exact h.elim
theorem opr_ned (hu : X.A.units + 64 < cLine) : OpR X (compareOp .NotEq) (rTwo X fun x y => (cmpD .NotEq x y).map PyData.bool) := by
  intro pins s σ H x y v u Q I rx ry ⟨M, st, vx, vy, dx, dy, E, S, ex, ey, hx, hy, h⟩
  simp only [cmpD, eqD] at h
  by_cases c : shape2 dx dy = true
  · rw [if_pos c] at h
    replace h : OkX X M H (.ok (.dat (.bool _)) st) Q E := h
    simp only [shape2, Bool.and_eq_true] at c
    exact op_neD hu pins s σ H x y v u Q I rx ry ⟨dx, dy, Dr.dp _ _ (rd_dr S ex hx), Dr.dp _ _ (rd_dr S ey hy), c.1, c.2, h.same S (.bl _)⟩
  · rw [if_neg c] at h
    exact h.elim
theorem opr_ltd (hu : X.A.units + 64 < cLine) : OpR X (compareOp .Lt) (rTwo X fun x y => (cmpD .Lt x y).map PyData.bool) := by
  intro pins s σ H x y v u Q I rx ry ⟨M, st, vx, vy, dx, dy, E, S, ex, ey, hx, hy, h⟩
  have tx := rd_top S ex hx
  have ty := rd_top S ey hy
  simp only [cmpD] at h
  unfold ltD at h
  split at h
  · replace h : OkX X M H (.ok (.dat (.bool _)) st) Q E := h
    obtain rfl := tx.int
    obtain rfl := ty.int
    exact op_lt pins s σ H _ _ v u Q I rx ry ⟨_, _, rfl, rfl, h.same S (.bl _)⟩
  · split at h
    · rename_i xs ys c
      replace h : OkX X M H (.ok (.dat (.bool _)) st) Q E := h
      simp only [shape2, Bool.and_eq_true] at c
      obtain ⟨as, ra⟩ := reads_of I S ex hx rx
      obtain ⟨bs, rb⟩ := reads_of I S ey hy ry
      have d1 := depth_shape c.2.1
      exact PySem.W.lt_data ra rb c.1 (by simp) (by omega) ⟨.bl _, H, I, rfl, h.same S (.bl _)⟩
    · exact h.elim
  · exact h.elim
theorem opr_gtd (hu : X.A.units + 64 < cLine) : OpR X (compareOp .Gt) (rTwo X fun x y => (cmpD .Gt x y).map PyData.bool) := by
  intro pins s σ H x y v u Q I rx ry ⟨M, st, vx, vy, dx, dy, E, S, ex, ey, hx, hy, h⟩
  have tx := rd_top S ex hx
  have ty := rd_top S ey hy
  simp only [cmpD] at h
  unfold gtD at h
  split at h
  · replace h : OkX X M H (.ok (.dat (.bool _)) st) Q E := h
    obtain rfl := tx.int
    obtain rfl := ty.int
    exact op_gt pins s σ H _ _ v u Q I rx ry ⟨_, _, rfl, rfl, h.same S (.bl _)⟩
  · split at h
    · rename_i xs ys c
      replace h : OkX X M H (.ok (.dat (.bool _)) st) Q E := h
      simp only [shape2, Bool.and_eq_true] at c
      obtain ⟨as, ra⟩ := reads_of I S ex hx rx
      obtain ⟨bs, rb⟩ := reads_of I S ey hy ry
      have d1 := depth_shape c.2.1
      exact PySem.W.gt_data ra rb c.1 (by simp) (by omega) ⟨.bl _, H, I, rfl, h.same S (.bl _)⟩
    · exact h.elim
  · exact h.elim
theorem opr_led : OpR X (compareOp .LtE) (rTwo X fun x y => (cmpD .LtE x y).map PyData.bool) := by
  intro pins s σ H x y v u Q I rx ry ⟨M, st, vx, vy, dx, dy, E, S, ex, ey, hx, hy, h⟩
  have tx := rd_top S ex hx
  have ty := rd_top S ey hy
  simp only [cmpD] at h
  unfold leD at h
  split at h
  · replace h : OkX X M H (.ok (.dat (.bool _)) st) Q E := h
    obtain rfl := tx.int
    obtain rfl := ty.int
    exact op_le pins s σ H _ _ v u Q I rx ry ⟨_, _, rfl, rfl, h.same S (.bl _)⟩
  · exact h.elim
theorem opr_ged : OpR X (compareOp .GtE) (rTwo X fun x y => (cmpD .GtE x y).map PyData.bool) := by
  intro pins s σ H x y v u Q I rx ry ⟨M, st, vx, vy, dx, dy, E, S, ex, ey, hx, hy, h⟩
  have tx := rd_top S ex hx
  have ty := rd_top S ey hy
  simp only [cmpD] at h
  unfold geD at h
  split at h
  · replace h : OkX X M H (.ok (.dat (.bool _)) st) Q E := h
    obtain rfl := tx.int
    obtain rfl := ty.int
    exact op_ge pins s σ H _ _ v u Q I rx ry ⟨_, _, rfl, rfl, h.same S (.bl _)⟩
  · exact h.elim
theorem isNone_v {F H : Hp} {x : V} {d : PyData} (t : Top F H x d) : decide (x = .non) = isNone d := by
  cases t with
  | lst h1 h2 => rfl
  | oth h n => cases h <;> rfl
theorem opr_isd : OpR X (compareOp .Is) (rTwo X fun x y => (cmpD .Is x y).map PyData.bool) := by
  intro pins s σ H x y v u Q I rx ry ⟨M, st, vx, vy, dx, dy, E, S, ex, ey, hx, hy, h⟩
  have tx := rd_top S ex hx
  have ty := rd_top S ey hy
  simp only [cmpD] at h
  unfold isD at h
  split at h
  · replace h : OkX X M H (.ok (.dat (.bool _)) st) Q E := h
    obtain rfl := ty.none
    refine op_isN pins s σ H _ _ v u Q I rx ry ⟨rfl, ?_⟩
    rw [isNone_v tx]
    exact h.same S (.bl _)
  · replace h : OkX X M H (.ok (.dat (.bool _)) st) Q E := h
    obtain rfl := tx.bool
    obtain rfl := ty.bool
    exact op_isBl pins s σ H _ _ v u Q I rx ry ⟨_, _, rfl, rfl, h.same S (.bl _)⟩
  · exact h.elim
theorem opr_notd : OpR X (compareOp .IsNot) (rTwo X fun x y => (cmpD .IsNot x y).map PyData.bool) := by
  intro pins s σ H x y v u Q I rx ry ⟨M, st, vx, vy, dx, dy, E, S, ex, ey, hx, hy, h⟩
  have tx := rd_top S ex hx
  have ty := rd_top S ey hy
  simp only [cmpD] at h
  unfold isD at h
  split at h
  · replace h : OkX X M H (.ok (.dat (.bool _)) st) Q E := h
    obtain rfl := ty.none
    refine op_notN pins s σ H _ _ v u Q I rx ry ⟨rfl, ?_⟩
    rw [isNone_v tx]
    exact h.same S (.bl _)
  · replace h : OkX X M H (.ok (.dat (.bool _)) st) Q E := h
    obtain rfl := tx.bool
    obtain rfl := ty.bool
    exact op_notBl pins s σ H _ _ v u Q I rx ry ⟨_, _, rfl, rfl, h.same S (.bl _)⟩
  · exact h.elim
theorem str_one {c : Str} {k : Nat} (h : c.cps.toList = [k]) : c = ⟨#[k]⟩ := by
  obtain ⟨a⟩ := c
  have e : a = #[k] := Array.toList_inj.mp h
  rw [e]
theorem opr_ind (hu : X.A.units + 65 < cLine) : OpR X (compareOp .In) (rTwo X fun x y => (cmpD .In x y).map PyData.bool) := by
  intro pins s σ H x y v u Q I rx ry ⟨M, st, vx, vy, dx, dy, E, S, ex, ey, hx, hy, h⟩
  have tx := rd_top S ex hx
  have ty := rd_top S ey hy
  simp only [cmpD] at h
  unfold inD at h
  split at h
  · split at h
    · rename_i c
      replace h : OkX X M H (.ok (.dat (.bool _)) st) Q E := h
      simp only [shape2, Bool.and_eq_true] at c
      exact op_inD hu pins s σ H _ _ v u Q I rx ry ⟨_, _, Dr.dp _ _ (rd_dr S ex hx), Dr.dp _ _ (rd_dr S ey hy), c.1, c.2, h.same S (.bl _)⟩
    · exact h.elim
  · split at h
    · rename_i c
      replace h : OkX X M H (.ok (.dat (.bool _)) st) Q E := h
      simp only [shape2, Bool.and_eq_true] at c
      obtain ⟨as, ra⟩ := reads_of I S ex hx rx
      obtain ⟨bs, rb⟩ := reads_of I S ey hy ry
      exact SeqAt.in_tuple_reads rb ra (SeqAt.canLay_of_shaped c.2) (SeqAt.canLay_of_shaped c.1) (room_in_shaped c.1 hu) ⟨.bl _, H, I, rfl, h.same S (.bl _)⟩
    · exact h.elim
  · split at h
    · rename_i k e
      replace h : OkX X M H (.ok (.dat (.bool _)) st) Q E := h
      obtain rfl := tx.str
      obtain rfl := ty.str
      have ek := str_one e
      exact op_in_sign pins s σ H _ _ v u Q I rx ry ⟨k, _, by rw [ek], rfl, h.same S (.bl _)⟩
    · exact h.elim
  · exact h.elim
theorem opr_nind (hu : X.A.units + 65 < cLine) : OpR X (compareOp .NotIn) (rTwo X fun x y => (cmpD .NotIn x y).map PyData.bool) := by
  intro pins s σ H x y v u Q I rx ry ⟨M, st, vx, vy, dx, dy, E, S, ex, ey, hx, hy, h⟩
  have tx := rd_top S ex hx
  have ty := rd_top S ey hy
  simp only [cmpD] at h
  unfold inD at h
  split at h
  · split at h
    · rename_i c
      replace h : OkX X M H (.ok (.dat (.bool _)) st) Q E := h
      simp only [shape2, Bool.and_eq_true] at c
      exact op_notInD hu pins s σ H _ _ v u Q I rx ry ⟨_, _, Dr.dp _ _ (rd_dr S ex hx), Dr.dp _ _ (rd_dr S ey hy), c.1, c.2, h.same S (.bl _)⟩
    · exact h.elim
  · split at h
    · rename_i c
      replace h : OkX X M H (.ok (.dat (.bool _)) st) Q E := h
      simp only [shape2, Bool.and_eq_true] at c
      obtain ⟨as, ra⟩ := reads_of I S ex hx rx
      obtain ⟨bs, rb⟩ := reads_of I S ey hy ry
      exact SeqAt.notIn_tuple_reads rb ra (SeqAt.canLay_of_shaped c.2) (SeqAt.canLay_of_shaped c.1) (room_in_shaped c.1 hu) ⟨.bl _, H, I, rfl, h.same S (.bl _)⟩
    · exact h.elim
  · split at h
    · rename_i k e
      replace h : OkX X M H (.ok (.dat (.bool _)) st) Q E := h
      obtain rfl := tx.str
      obtain rfl := ty.str
      have ek := str_one e
      exact op_notIn_sign pins s σ H _ _ v u Q I rx ry ⟨k, _, by rw [ek], rfl, h.same S (.bl _)⟩
    · exact h.elim
  · exact h.elim
theorem opr_cmp (hu : X.A.units + 65 < cLine) (op : CmpOp) : OpR X (compareOp op) (rTwo X fun x y => (cmpD op x y).map PyData.bool) := by
  cases op with
  | Eq => exact opr_eqd (by omega)
  | NotEq => exact opr_ned (by omega)
  | Lt => exact opr_ltd (by omega)
  | Gt => exact opr_gtd (by omega)
  | LtE => exact opr_led
  | GtE => exact opr_ged
  | Is => exact opr_isd
  | IsNot => exact opr_notd
  | In => exact opr_ind hu
  | NotIn => exact opr_nind hu
end
end PD

set_option Elab.async false
set_option linter.all false
set_option maxRecDepth 100000
set_option maxHeartbeats 1000000
/-! Dicts whose keys are tuples of numbers, and tuples of these. -/
namespace PD
open PySem PySem.Spec PyProof.Rows L2

mutual
theorem dr_nest {P : Program} {w : World} {H : Hp} {h : Heap} (ok : HOk P w H h) : ∀ (n : Nat) (d : PyData) (v : V) (u : Value), keyOk n d = true → Dr H v d → RelV v u → NestedIs h (nkey d) u
  | n, .int i, v, u, _, hd, r => by
    cases hd
    obtain ⟨t, rfl⟩ := r
    exact .int i t
  | n, .tuple xs, v, u, hk, hd, r => by
    cases n with
    | zero => simp [keyOk] at hk
    | succ n =>
      cases hd with
      | @tup a ys ds ha hs =>
        cases (show u = Value.ref a from r)
        obtain ⟨_, its, rv, o, g, c, m, e⟩ := (show ObjOk P w H h a (.tup ys) from ok a _ ha)
        exact .tup g c e (by simpa using drs_nest ok n xs ys its (by simpa [keyOk] using hk) hs rv)
  | n, .none, _, _, hk, _, _ => by cases n <;> simp [keyOk] at hk
  | n, .bool _, _, _, hk, _, _ => by cases n <;> simp [keyOk] at hk
  | n, .str _, _, _, hk, _, _ => by cases n <;> simp [keyOk] at hk
  | n, .list _, _, _, hk, _, _ => by cases n <;> simp [keyOk] at hk
  | n, .dict _, _, _, hk, _, _ => by cases n <;> simp [keyOk] at hk
theorem drs_nest {P : Program} {w : World} {H : Hp} {h : Heap} (ok : HOk P w H h) : ∀ (n : Nat) (ds : List PyData) (vs : List V) (us : List Value), keysOk n ds = true → Drs H vs ds → Vals vs us → NestedAll h (nkeys ds) us
  | _, [], _, _, _, hd, r => by
    cases hd
    cases r
    exact .nil
  | n, d :: ds, _, _, hk, hd, r => by
    simp only [keysOk, Bool.and_eq_true] at hk
    cases hd with
    | cons h1 h2 =>
      cases r with
      | cons r1 r2 => exact .cons (dr_nest ok n d _ _ hk.1 h1 r1) (drs_nest ok n ds _ _ hk.2 h2 r2)
end
section
variable {P : Program} {w : World} {H F : Hp} {h : Heap}
theorem key_is (ok : HOk P w H h) {d : PyData} (hk : tupKey d = true) {a : Addr} (hd : Dr H (.ref a) d) : (nestedKind P w).is h (nkey d) a := by
  simp only [tupKey, Bool.and_eq_true] at hk
  exact ⟨dr_nest ok 6 d (.ref a) (.ref a) hk.2 hd rfl, Nat.le_trans (nkey_depth 6 d hk.2) (by decide)⟩
theorem key_ref {d : PyData} (hk : tupKey d = true) {x : V} (hd : Dr H x d) : ∃ a, x = .ref a := by
  cases d with
  | tuple ds =>
    cases hd with
    | tup h1 h2 => exact ⟨_, rfl⟩
  | _ => simp [tupKey, isTup] at hk

abbrev Ent := NestedKey × Addr × Value
theorem same_iff {x y : PyData} : same x y = true ↔ x = y := ⟨same_eq x y, fun e => by rw [e]; exact same_refl y⟩
theorem ent_key {kv : PyData × PyData} {x : Ent} (e : EntR F kv x) {k : PyData} (hk : tupKey k = true) : decide (x.1 = nkey k) = same kv.1 k := by
  obtain ⟨h1, h2, _⟩ := e
  rw [h2]
  by_cases c : kv.1 = k
  · rw [c, decide_eq_true rfl, same_refl]
  · rw [decide_eq_false (fun q => c (tupKey_inj h1 hk q))]
    cases q : same kv.1 k with
    | false => rfl
    | true => exact absurd (same_eq _ _ q) c
theorem look_some : ∀ {kvs : List (PyData × PyData)} {xs : List Ent} {k d : PyData}, Paired (EntR F) kvs xs → tupKey k = true → lookD kvs k = some d → ∃ p v, atKey xs (nkey k) = some p ∧ RelV v p.2 ∧ Dr F v d
  | _, _, _, _, .nil, _, h => by cases h
  | _, _, k, d, .cons (a := kv) (b := x) e t, hk, h => by
    have q := ent_key e hk
    obtain ⟨c, b⟩ := kv
    unfold lookD at h
    by_cases g : same c k = true
    · rw [if_pos g] at h
      cases h
      obtain ⟨h1, h2, h3, v, h4, h5⟩ := e
      refine ⟨x.2, v, ?_, h4, h5⟩
      unfold atKey
      rw [List.find?_cons, q, g]
      rfl
    · rw [if_neg g] at h
      obtain ⟨p, v, h1, h2⟩ := look_some t hk h
      refine ⟨p, v, ?_, h2⟩
      unfold atKey at h1 ⊢
      rw [List.find?_cons, q, Bool.eq_false_iff.mpr g]
      exact h1
theorem look_none : ∀ {kvs : List (PyData × PyData)} {xs : List Ent} {k : PyData}, Paired (EntR F) kvs xs → tupKey k = true → lookD kvs k = none → atKey xs (nkey k) = none
  | _, _, _, .nil, _, _ => rfl
  | _, _, k, .cons (a := kv) (b := x) e t, hk, h => by
    have q := ent_key e hk
    obtain ⟨c, b⟩ := kv
    unfold lookD at h
    by_cases g : same c k = true
    · rw [if_pos g] at h
      cases h
    · rw [if_neg g] at h
      have h1 := look_none t hk h
      unfold atKey at h1 ⊢
      rw [List.find?_cons, q, Bool.eq_false_iff.mpr g]
      exact h1
theorem look_is {kvs : List (PyData × PyData)} {xs : List Ent} {k : PyData} (r : Paired (EntR F) kvs xs) (hk : tupKey k = true) : (atKey xs (nkey k)).isSome = (lookD kvs k).isSome := by
  cases e : lookD kvs k with
  | none =>
    rw [look_none r hk e]
    rfl
  | some d =>
    obtain ⟨p, v, h1, _⟩ := look_some r hk e
    rw [h1]
    rfl
theorem put_none : ∀ {kvs : List (PyData × PyData)} {k d : PyData}, lookD kvs k = none → putD kvs k d = kvs ++ [(k, d)]
  | [], _, _, _ => rfl
  | (a, b) :: r, k, d, h => by
    unfold lookD at h
    unfold putD
    by_cases g : same a k = true
    · rw [if_pos g] at h
      cases h
    · rw [if_neg g] at h ⊢
      rw [put_none h]
      rfl
theorem put_len : ∀ (kvs : List (PyData × PyData)) (k d : PyData), (putD kvs k d).length ≤ kvs.length + 1
  | [], _, _ => Nat.le_refl _
  | (a, b) :: r, k, d => by
    unfold putD
    split
    · exact Nat.le_succ _
    · exact Nat.succ_le_succ (put_len r k d)
theorem putAt_other {xs : List Ent} {k : NestedKey} {v : Value} (h : k ∉ xs.map (·.1)) : xs.map (putAt k v) = xs := by
  induction xs with
  | nil => rfl
  | cons x r ih =>
    rw [List.map_cons, List.mem_cons, not_or] at h
    rw [List.map_cons, ih h.2]
    unfold putAt
    rw [if_neg (fun e => h.1 e.symm)]
theorem put_pairs : ∀ {kvs : List (PyData × PyData)} {xs : List Ent} {k d : PyData} {v : Value} {y : V}, Paired (EntR F) kvs xs → (xs.map (·.1)).Nodup → tupKey k = true → (lookD kvs k).isSome = true → RelV y v → Dr F y d →
    Paired (EntR F) (putD kvs k d) (xs.map (putAt (nkey k) v))
  | _, _, _, _, _, _, .nil, _, _, h, _, _ => by cases h
  | _, _, k, d, v, y, .cons (a := kv) (b := x) e t, nd, hk, h, ry, dy => by
    have q := ent_key e hk
    obtain ⟨c, b⟩ := kv
    rw [List.map_cons, List.nodup_cons] at nd
    rw [List.map_cons]
    unfold putD
    unfold lookD at h
    by_cases g : same c k = true
    · rw [if_pos g]
      have ek : x.1 = nkey k := of_decide_eq_true (by rw [q]; exact g)
      rw [putAt_other (by rw [← ek]; exact nd.1)]
      unfold putAt
      rw [if_pos ek]
      obtain ⟨h1, h2, h3, _⟩ := e
      exact .cons ⟨h1, h2, h3, y, ry, dy⟩ t
    · rw [if_neg g] at h ⊢
      have ek : ¬ x.1 = nkey k := of_decide_eq_false (by rw [q]; exact Bool.eq_false_iff.mpr g)
      unfold putAt
      rw [if_neg ek]
      exact .cons e (put_pairs t nd.2 hk h ry dy)
theorem put_rel {kvs : List (PyData × PyData)} {xs : List Ent} {k d : PyData} {a : Addr} {v : Value} {y : V} (r : Paired (EntR F) kvs xs) (nd : (xs.map (·.1)).Nodup) (hk : tupKey k = true) (da : Dr F (.ref a) k) (ry : RelV y v) (dy : Dr F y d) :
    Paired (EntR F) (putD kvs k d) (storedH xs (nkey k) a v) := by
  cases e : lookD kvs k with
  | none =>
    rw [put_none e, storedH_new (look_none r hk e)]
    exact r.snoc ⟨hk, rfl, da, y, ry, dy⟩
  | some z =>
    obtain ⟨p, u, h1, _⟩ := look_some r hk e
    rw [storedH_old h1]
    exact put_pairs r nd hk (by rw [e]; rfl) ry dy
theorem Paired.mem {α β : Type} {R : α → β → Prop} : ∀ {xs : List α} {ys : List β} {y : β}, Paired R xs ys → y ∈ ys → ∃ x, x ∈ xs ∧ R x y
  | _, _, _, .nil, h => by cases h
  | _, _, y, .cons r t, h => by
    rcases List.mem_cons.mp h with rfl | h
    · exact ⟨_, List.mem_cons_self, r⟩
    · obtain ⟨x, h1, h2⟩ := Paired.mem t h
      exact ⟨x, List.mem_cons_of_mem _ h1, h2⟩
/-- the dict as the library's rules see it -/
theorem dict_of (ok : HOk P w H h) {a : Addr} {xs : List Ent} (ha : H a = some (DictO P w a xs)) {kvs : List (PyData × PyData)} (r : Paired (EntR F) kvs xs) (sb : Sub F H) : h.DictOfH (nestedKind P w) a xs ∧ (a == sysModules) = false ∧ xs.length ≤ sizeLine := by
  obtain ⟨⟨o, es, ep, g, x, dd, el, nd, sm, ln⟩, _⟩ := (show ObjOk P w H h a (DictO P w a xs) from ok a _ ha)
  refine ⟨⟨o, es, ep, g, x, dd, el, fun e he => ?_, nd⟩, sm, ln⟩
  obtain ⟨kv, _, h1, h2, h3, _⟩ := Paired.mem r he
  rw [h2]
  exact key_is ok h1 (Dr.sub sb _ _ h3)
theorem dict_new {a : Addr} {xs : List Ent} (d : h.DictOfH (nestedKind P w) a xs) (sm : (a == sysModules) = false) (ln : xs.length ≤ sizeLine) : ObjOk P w H h a (DictO P w a xs) := by
  obtain ⟨o, es, ep, g, x, dd, el, _, nd⟩ := d
  refine ⟨⟨o, es, ep, g, x, dd, el, nd, sm, ln⟩, ⟨o, g⟩, fun h1 h2 ⟨o', es', ep', g', x', dd', r⟩ k => ⟨o', es', ep', k _ g', x', dd', r⟩⟩
end
section
variable {X : Cx}
theorem room_key {A : Around} (hu : A.units + 65 < cLine) {P : Program} {w : World} : (nestedKind P w).room A.in1 := by
  show A.units + 1 + 8 < cLine
  omega
/-- what is known of a dict's cell and of a key -/
structure AtDict (X : Cx) (M : List Addr) (H : Hp) (st : Store) (n : Nat) (kvs : List (PyData × PyData)) (a : Addr) (xs : List Ent) : Prop where
  rel : SR X M H st
  at_ : st[n]? = some (.dict kvs)
  m : M[n]? = some a
  obj : H a = some (DictO X.prog X.w a xs)
  ent : Paired (EntR (Fz M H)) kvs xs
theorem at_dict {M : List Addr} {H : Hp} {st : Store} {n : Nat} {kvs : List (PyData × PyData)} {a : Addr} (S : SR X M H st) (e : st[n]? = some (.dict kvs)) (m : M[n]? = some a) : ∃ xs, AtDict X M H st n kvs a xs := by
  obtain ⟨xs, h1, h2⟩ := S.cell n _ a e m
  exact ⟨xs, S, e, m, h1, h2⟩
theorem op_in_dict (hu : X.A.units + 65 < cLine) : OpR X (compareOp .In) (fun x y H Q => ∃ (M : List Addr) (st : Store) (n : Nat) (kvs : List (PyData × PyData)) (k : PyData) (a : Addr), SR X M H st ∧ st[n]? = some (.dict kvs) ∧ M[n]? = some a ∧ y = .ref a ∧ Dr (Fz M H) x k ∧ tupKey k = true ∧ Q (.bl (lookD kvs k).isSome) H) := by
  intro pins s σ H x y v u Q I rx ry ⟨M, st, n, kvs, k, a, S, e, m, ey, dk, hk, q⟩
  subst ey
  cases ry
  obtain ⟨xs, D⟩ := at_dict S e m
  obtain ⟨b, rfl⟩ := key_ref hk dk
  cases rx
  obtain ⟨dd, sm, ln⟩ := dict_of I.hok D.obj D.ent Fz_sub
  refine wpAny_in_heap (room_key hu) (key_is I.hok hk (Dr.sub Fz_sub _ _ dk)) sm dd ⟨.bl _, H, I.tok _, rfl, ?_⟩
  rw [look_is D.ent hk]
  exact q
theorem op_nin_dict (hu : X.A.units + 65 < cLine) : OpR X (compareOp .NotIn) (fun x y H Q => ∃ (M : List Addr) (st : Store) (n : Nat) (kvs : List (PyData × PyData)) (k : PyData) (a : Addr), SR X M H st ∧ st[n]? = some (.dict kvs) ∧ M[n]? = some a ∧ y = .ref a ∧ Dr (Fz M H) x k ∧ tupKey k = true ∧ Q (.bl (!(lookD kvs k).isSome)) H) := by
  intro pins s σ H x y v u Q I rx ry ⟨M, st, n, kvs, k, a, S, e, m, ey, dk, hk, q⟩
  subst ey
  cases ry
  obtain ⟨xs, D⟩ := at_dict S e m
  obtain ⟨b, rfl⟩ := key_ref hk dk
  cases rx
  obtain ⟨dd, sm, ln⟩ := dict_of I.hok D.obj D.ent Fz_sub
  refine wpAny_notIn_heap (room_key hu) (key_is I.hok hk (Dr.sub Fz_sub _ _ dk)) sm dd ⟨.bl _, H, I.tok _, rfl, ?_⟩
  rw [look_is D.ent hk]
  exact q
theorem ix_dict (hu : X.A.units + 65 < cLine) : IxR X (fun x y H Q => ∃ (M : List Addr) (st : Store) (n : Nat) (kvs : List (PyData × PyData)) (k : PyData) (a : Addr) (d : PyData), SR X M H st ∧ st[n]? = some (.dict kvs) ∧ M[n]? = some a ∧ x = .ref a ∧ Dr (Fz M H) y k ∧ tupKey k = true ∧ lookD kvs k = some d ∧ ∀ z, Dr (Fz M H) z d → Q z H) := by
  intro value slice pins s σ H x y v u Q I rx ry ⟨M, st, n, kvs, k, a, d, S, e, m, ex, dk, hk, hd, q⟩ hs
  subst ex
  cases rx
  obtain ⟨xs, D⟩ := at_dict S e m
  obtain ⟨b, rfl⟩ := key_ref hk dk
  cases ry
  obtain ⟨dd, sm, ln⟩ := dict_of I.hok D.obj D.ent Fz_sub
  obtain ⟨p, z, hp, rz, dz⟩ := look_some D.ent hk hd
  exact subscriptTail_builtinR (x := p.2) dd.typeIs PySem.F.slot_dict_getitem.lookup
    (wpAny_getItem_heap (Q := fun r s' => r = p.2 ∧ EP X pins σ Q r s') (room_key hu) (key_is I.hok hk (Dr.sub Fz_sub _ _ dk)) dd hp ⟨rfl, z, H, I.tok _, rz, q z dz⟩) hs
/-- d[k] = v -/
theorem set_dictT (hu : X.A.units + 65 < cLine) : PSet X (fun o i v H Q => ∃ (M : List Addr) (st : Store) (n : Nat) (kvs : List (PyData × PyData)) (k : PyData) (a : Addr) (d : PyData), SR X M H st ∧ st[n]? = some (.dict kvs) ∧ M[n]? = some a ∧ o = .ref a ∧ Dr (Fz M H) i k ∧ tupKey k = true ∧ Dr (Fz M H) v d ∧ kvs.length < LIM ∧
    ∀ H', Ext M H M H' → SR X M H' (st.set n (.dict (putD kvs k d))) → Q H') := by
  intro pins s σ H o i v ov iv u Q I ro ri rv ⟨M, st, n, kvs, k, a, d, S, e, m, eo, dk, hk, dv, hl, q⟩
  subst eo
  cases ro
  obtain ⟨xs, D⟩ := at_dict S e m
  obtain ⟨b, rfl⟩ := key_ref hk dk
  cases ri
  obtain ⟨dd, sm, ln⟩ := dict_of I.hok D.obj D.ent Fz_sub
  have mem : a ∈ M := List.mem_of_getElem? m
  have nd : (xs.map (·.1)).Nodup := dd.nodup
  have rel := put_rel D.ent nd hk dk rv dv
  have hlen : (storedH xs (nkey k) b u).length ≤ sizeLine := by
    have h1 := Paired.length rel
    have h2 := put_len kvs k d
    have h3 := lim_line
    omega
  refine wpAny_setItem_heap (hsz := ln) (room_key hu) (key_is I.hok hk (Dr.sub Fz_sub _ _ dk)) dd fun h' dd' sb => ?_
  have there : ∃ z, h'.get? a = some z := by
    obtain ⟨z, _, _, g, _⟩ := dd'
    exact ⟨z, g⟩
  refine ⟨upd H a (DictO X.prog X.w a (storedH xs (nkey k) b u)), ?_, ?_⟩
  · exact I.write (e := a) (by rw [D.obj]; exact True.intro) (.inl rfl) (fun c z nc g => (sb.2 c nc).trans g) there (dict_new dd' sm hlen)
  · exact q _ (Ext.put mem D.obj) (S.put m ⟨_, upd_same, rel⟩)
end
end PD

set_option Elab.async false
set_option linter.all false
set_option maxRecDepth 100000
set_option maxHeartbeats 1000000
/-! Built-in functions and classes, called. -/
namespace PD
open PySem PySem.Spec PyProof.Rows L2

section
variable {X : Cx}
/-- one argument whose data is known -/
def rOne (X : Cx) (f : PyData → Option PyData) : List V → Hp → VK → Prop := fun xs H Q => ∃ x M st v d E, xs = [x] ∧ SR X M H st ∧ EVr (Fz M H) M x v ∧ rd st v = some d ∧ OkX X M H (ofO st (f d)) Q E
def rPair (X : Cx) (f : PyData → PyData → Option PyData) : List V → Hp → VK → Prop := fun xs H Q => ∃ x y M st v u d e E, xs = [x, y] ∧ SR X M H st ∧ EVr (Fz M H) M x v ∧ EVr (Fz M H) M y u ∧ rd st v = some d ∧ rd st u = some e ∧ OkX X M H (ofO st (f d e)) Q E
/-- a list or a tuple, as the layer's rules take them -/
theorem seq_of {M : List Addr} {H : Hp} {x : V} {d : PyData} {ds : List PyData} (t : Top (Fz M H) H x d) (e : seqOf d = some ds) (K : PySem.W.Frag) :
    ∃ a xs, x = .ref a ∧ Drs (Fz M H) xs ds ∧ ((d = .list ds ∧ SqL K H a xs) ∨ (d = .tuple ds ∧ Fz M H a = some (.tup xs))) := by
  unfold seqOf at e
  split at e
  · cases e
    obtain ⟨a, xs, rfl, h1, h2⟩ := t.list
    exact ⟨a, xs, rfl, h2, .inl ⟨rfl, .inl h1⟩⟩
  · cases e
    obtain ⟨a, xs, rfl, h1, h2⟩ := t.tuple
    exact ⟨a, xs, rfl, h2, .inr ⟨rfl, h1⟩⟩
  · cases e
theorem cr_len : CallR X (.builtin "len") (rOne X lenD) := by
  intro pins s σ H xs us Q I r ⟨x, M, st, v, d, E, exs, S, ev, hd, h⟩
  subst exs
  unfold lenD at h
  cases e : seqOf d with
  | none =>
    rw [e] at h
    exact h.elim
  | some ds =>
    rw [e] at h
    replace h : OkX X M H (.ok (.dat (.int _)) st) Q E := h
    obtain ⟨a, ys, rfl, h2, c⟩ := seq_of (rd_top S ev hd) e X.K
    refine call_len_seq pins s σ H _ us Q I r ⟨a, ys, rfl, ?_, ?_⟩
    · rcases c with ⟨_, c⟩ | ⟨_, c⟩
      · exact .inl c
      · exact .inr (SqT.fz c)
    · rw [h2.length]
      exact h.same S (.int _)
theorem cr_tuple : CallR X (.type "tuple") (rOne X tupleD) := by
  intro pins s σ H xs us Q I r ⟨x, M, st, v, d, E, exs, S, ev, hd, h⟩
  subst exs
  unfold tupleD at h
  cases e : seqOf d with
  | none =>
    rw [e] at h
    exact h.elim
  | some ds =>
    rw [e] at h
    replace h : OkX X M H (.ok (.dat (.tuple ds)) st) Q E := h
    obtain ⟨a, ys, rfl, h2, c⟩ := seq_of (rd_top S ev hd) e X.K
    refine call_tuple_of pins s σ H _ us Q I r ⟨a, ys, rfl, ?_⟩
    rcases c with ⟨_, c⟩ | ⟨_, c⟩
    · exact .inl ⟨c, fun p hp => h.newT S h2 p hp⟩
    · exact .inr ⟨SqT.fz c, h.same S (.tup c h2)⟩
theorem cr_list : CallR X (.type "list") (rOne X listD) := by
  intro pins s σ H xs us Q I r ⟨x, M, st, v, d, E, exs, S, ev, hd, h⟩
  subst exs
  unfold listD at h
  cases e : seqOf d with
  | none =>
    rw [e] at h
    exact h.elim
  | some ds =>
    rw [e] at h
    replace h : OkX X M H (.ok (.dat (.list ds)) st) Q E := h
    obtain ⟨a, ys, rfl, h2, c⟩ := seq_of (rd_top S ev hd) e X.K
    refine call_list_of pins s σ H _ us Q I r ⟨a, ys, rfl, ?_, fun p hp => h.newL S h2 p hp⟩
    rcases c with ⟨_, c⟩ | ⟨_, c⟩
    · exact .inl c
    · exact .inr (SqT.fz c)
/-- list(e), the new list a cell -/
theorem cr_listC : CallR X (.type "list") (fun xs H Q => ∃ x M st v d ds E, xs = [x] ∧ SR X M H st ∧ EVr (Fz M H) M x v ∧ rd st v = some d ∧ seqOf d = some ds ∧ OkX X M H (.ok (.loc st.length) (st ++ [.lst ds])) Q E) := by
  intro pins s σ H xs us Q I r ⟨x, M, st, v, d, ds, E, exs, S, ev, hd, e, h⟩
  subst exs
  obtain ⟨a, ys, rfl, h2, c⟩ := seq_of (rd_top S ev hd) e X.K
  refine call_list_of pins s σ H _ us Q I r ⟨a, ys, rfl, ?_, fun p hp => h.cellL S h2 p hp⟩
  rcases c with ⟨_, c⟩ | ⟨_, c⟩
  · exact .inl c
  · exact .inr (SqT.fz c)
theorem cr_sumD (hc : X.calm = true) : CallR X (.builtin "sum") (rOne X sumD) := by
  intro pins s σ H xs us Q I r ⟨x, M, st, v, d, E, exs, S, ev, hd, h⟩
  subst exs
  unfold sumD at h
  split at h
  · rename_i ds
    cases e : intsOf ds with
    | none =>
      rw [e] at h
      exact h.elim
    | some ns =>
      rw [e] at h
      replace h : OkX X M H (.ok (.dat (.int _)) st) Q E := h
      have ed := intsOf_map e
      subst ed
      obtain ⟨a, ys, rfl, h1, h2⟩ := (rd_top S ev hd).list
      have ey := h2.ints
      subst ey
      exact cr_sum hc pins s σ H _ us Q I r ⟨a, ns, rfl, .inl h1, h.same S (.int _)⟩
  · exact h.elim
theorem cr_allD (hc : X.calm = true) : CallR X (.builtin "all") (rOne X allD) := by
  intro pins s σ H xs us Q I r ⟨x, M, st, v, d, E, exs, S, ev, hd, h⟩
  subst exs
  unfold allD at h
  split at h
  · rename_i ds
    cases e : boolsOf ds with
    | none =>
      rw [e] at h
      exact h.elim
    | some ns =>
      rw [e] at h
      replace h : OkX X M H (.ok (.dat (.bool _)) st) Q E := h
      have ed := boolsOf_map e
      subst ed
      obtain ⟨a, ys, rfl, h1, h2⟩ := (rd_top S ev hd).list
      have ey := h2.bools
      subst ey
      exact cr_all hc pins s σ H _ us Q I r ⟨a, ns, rfl, .inl h1, h.same S (.bl _)⟩
  · exact h.elim
theorem cr_strD : CallR X (.type "str") (rOne X strD) := by
  intro pins s σ H xs us Q I r ⟨x, M, st, v, d, E, exs, S, ev, hd, h⟩
  subst exs
  unfold strD at h
  split at h
  · split at h
    · rename_i c
      replace h : OkX X M H (.ok (.dat (.str _)) st) Q E := h
      obtain rfl := (rd_top S ev hd).int
      exact call_str_int pins s σ H _ us Q I r ⟨_, rfl, of_decide_eq_true c, h.same S (.str _)⟩
    · exact h.elim
  · replace h : OkX X M H (.ok (.dat (.str _)) st) Q E := h
    obtain rfl := (rd_top S ev hd).str
    exact SkE.call_str_str pins s σ H _ us Q I r ⟨_, rfl, h.same S (.str _)⟩
  · exact h.elim
theorem cr_intD : CallR X (.type "int") (rOne X intD) := by
  intro pins s σ H xs us Q I r ⟨x, M, st, v, d, E, exs, S, ev, hd, h⟩
  subst exs
  unfold intD at h
  split at h
  · split at h
    · rename_i a c
      cases e : PySem.intText? a with
      | none =>
        rw [e] at h
        exact h.elim
      | some n =>
        rw [e] at h
        replace h : OkX X M H (.ok (.dat (.int _)) st) Q E := h
        obtain rfl := (rd_top S ev hd).str
        exact call_int_str pins s σ H _ us Q I r ⟨_, n, rfl, e, of_decide_eq_true c, h.same S (.int _)⟩
    · exact h.elim
  · exact h.elim
theorem maxInt_le : ∀ (ns : List Int) (m : Int), m ≤ maxInt m ns ∧ ∀ y ∈ ns, y ≤ maxInt m ns
  | [], m => ⟨Int.le_refl _, fun _ h => nomatch h⟩
  | x :: r, m => by
    obtain ⟨h1, h2⟩ := maxInt_le r (if m < x then x else m)
    show m ≤ maxInt (if m < x then x else m) r ∧ ∀ y ∈ x :: r, y ≤ maxInt (if m < x then x else m) r
    refine ⟨?_, fun y hy => ?_⟩
    · refine Int.le_trans ?_ h1
      split <;> omega
    · rcases List.mem_cons.mp hy with rfl | hy
      · refine Int.le_trans ?_ h1
        split <;> omega
      · exact h2 y hy
theorem maxInt_mem : ∀ (ns : List Int) (m : Int), maxInt m ns ∈ m :: ns
  | [], m => List.mem_cons_self
  | x :: r, m => by
    have h := maxInt_mem r (if m < x then x else m)
    show maxInt (if m < x then x else m) r ∈ m :: x :: r
    rcases List.mem_cons.mp h with e | h
    · rw [e]
      split
      · exact List.mem_cons_of_mem _ List.mem_cons_self
      · exact List.mem_cons_self
    · exact List.mem_cons_of_mem _ (List.mem_cons_of_mem _ h)
theorem cr_maxD (hc : X.calm = true) : CallR X (.builtin "max") (rOne X maxD) := by
  intro pins s σ H xs us Q I r ⟨x, M, st, v, d, E, exs, S, ev, hd, h⟩
  subst exs
  unfold maxD at h
  split at h
  · rename_i ds
    cases e : intsOf ds with
    | none =>
      rw [e] at h
      exact h.elim
    | some ns =>
      rw [e] at h
      cases ns with
      | nil => exact h.elim
      | cons n ns =>
        replace h : OkX X M H (.ok (.dat (.int (maxInt n ns))) st) Q E := h
        have ed := intsOf_map e
        subst ed
        obtain ⟨a, ys, rfl, h1, h2⟩ := (rd_top S ev hd).list
        have ey := h2.ints
        subst ey
        refine cr_max hc pins s σ H _ us Q I r ⟨a, n :: ns, rfl, .inl h1, Nat.succ_pos _, fun m hm hle => ?_⟩
        have e1 : m = maxInt n ns := by
          have q1 := hle _ (maxInt_mem ns n)
          obtain ⟨q2, q3⟩ := maxInt_le ns n
          rcases List.mem_cons.mp hm with rfl | hm
          · omega
          · have := q3 m hm
            omega
        rw [e1]
        exact h.same S (.int _)
  · exact h.elim

/-! ### sorted, min of any data -/
theorem allAlike_of {ds : List PyData} (h : allAlike ds = true) : PySem.W.AllAlike ds := fun d hd e he => by
  unfold allAlike at h
  rw [List.all_eq_true] at h
  have q := h d hd
  rw [List.all_eq_true] at q
  exact q e he
mutual
theorem ofK_alike : ∀ (n : Nat) (x y : PyData), ofK n x = true → ofK n y = true → PySem.W.alike x y = true
  | 0, .int _, .int _, _, _ => rfl
  | n + 1, .tuple xs, .tuple ys, h1, h2 => by
    unfold ofK at h1 h2
    unfold PySem.W.alike
    exact ofKs_alike n xs ys h1 h2
  | 0, .int _, y, _, h2 => by cases y <;> first | rfl | cases h2
  | 0, .none, y, h1, _ => by cases h1
  | 0, .bool _, y, h1, _ => by cases h1
  | 0, .str _, y, h1, _ => by cases h1
  | 0, .list _, y, h1, _ => by cases h1
  | 0, .tuple _, y, h1, _ => by cases h1
  | 0, .dict _, y, h1, _ => by cases h1
  | n + 1, .none, y, h1, _ => by cases h1
  | n + 1, .int _, y, h1, _ => by cases h1
  | n + 1, .bool _, y, h1, _ => by cases h1
  | n + 1, .str _, y, h1, _ => by cases h1
  | n + 1, .list _, y, h1, _ => by cases h1
  | n + 1, .dict _, y, h1, _ => by cases h1
  | n + 1, .tuple _, .none, _, h2 => by cases h2
  | n + 1, .tuple _, .int _, _, h2 => by cases h2
  | n + 1, .tuple _, .bool _, _, h2 => by cases h2
  | n + 1, .tuple _, .str _, _, h2 => by cases h2
  | n + 1, .tuple _, .list _, _, h2 => by cases h2
  | n + 1, .tuple _, .dict _, _, h2 => by cases h2
theorem ofKs_alike : ∀ (n : Nat) (xs ys : List PyData), ofKs n xs = true → ofKs n ys = true → PySem.W.alikeAll xs ys = true
  | _, [], _, _, _ => by unfold PySem.W.alikeAll; rfl
  | _, _ :: _, [], _, _ => by unfold PySem.W.alikeAll; rfl
  | n, x :: xs, y :: ys, h1, h2 => by
    unfold ofKs at h1 h2
    rw [Bool.and_eq_true] at h1 h2
    unfold PySem.W.alikeAll
    rw [ofK_alike n x y h1.1 h2.1, ofKs_alike n xs ys h1.2 h2.2]
    rfl
end
theorem ofKs_mem : ∀ {n : Nat} {ds : List PyData} {d : PyData}, ofKs n ds = true → d ∈ ds → ofK n d = true
  | n, x :: r, d, h, hd => by
    unfold ofKs at h
    rw [Bool.and_eq_true] at h
    rcases List.mem_cons.mp hd with rfl | hd
    · exact h.1
    · exact ofKs_mem h.2 hd
theorem alikes_of {ds : List PyData} (h : alikes ds = true) : PySem.W.AllAlike ds := by
  unfold alikes at h
  simp only [Bool.or_eq_true] at h
  rcases h with (((h | h) | h) | h) | h
  · exact fun d hd e he => ofK_alike 0 d e (ofKs_mem h hd) (ofKs_mem h he)
  · exact fun d hd e he => ofK_alike 1 d e (ofKs_mem h hd) (ofKs_mem h he)
  · exact fun d hd e he => ofK_alike 2 d e (ofKs_mem h hd) (ofKs_mem h he)
  · exact fun d hd e he => ofK_alike 3 d e (ofKs_mem h hd) (ofKs_mem h he)
  · exact allAlike_of h
theorem plainOrd_of {ds : List PyData} (h : plainOrd ds = true) : PySem.W.Sortable ds := by
  unfold plainOrd at h
  rw [Bool.or_eq_true, List.all_eq_true, List.all_eq_true] at h
  rcases h with h | h
  · refine .inl fun d hd => ?_
    have q := h d hd
    split at q
    · exact ⟨_, _, rfl⟩
    · cases q
  · refine .inr fun d hd => ?_
    have q := h d hd
    split at q
    · cases q
    · cases q
    · rename_i h1 h2
      exact ⟨h2, h1⟩
theorem depth_mem : ∀ {ds : List PyData} {d : PyData}, d ∈ ds → d.depth ≤ PyData.depthAll ds
  | _ :: r, d, h => by
    simp only [PyData.depthAll]
    rcases List.mem_cons.mp h with rfl | h
    · omega
    · have := depth_mem h
      omega
theorem isNone_ne {d : PyData} (h : (!isNone d) = true) : d ≠ .none := fun e => by
  subst e
  cases h
/-- at most one item: there is nothing to compare -/
theorem sorts_few {A : Around} {s : Shared} {vs : List Value} {ds : List PyData} (e : PySem.W.EachIs (fun v d => ∃ as, Reads s.heap v d as) vs ds) (hal : PySem.W.AllAlike ds) (h1 : ds.length ≤ 1) (hn : ∀ d ∈ ds, d ≠ .none) (hu : ∀ d, d ∈ ds → A.units + d.depth < cLine) :
    PySem.W.SortsAt X.prog X.w A s (PySem.W.dataKind s.heap ds) vs := by
  refine ⟨fun v hv => ?_, general', fun E x y a b Q ha hb hq => ?_, fun h2 => ?_⟩
  · obtain ⟨d, hd, as, r⟩ := e.left v hv
    exact ⟨_, PySem.W.dataKind_some hal hd r⟩
  · obtain ⟨d, as, hd, ra, rfl⟩ := PySem.W.dataKind_inv ha
    obtain ⟨d', as', hd', rb, rfl⟩ := PySem.W.dataKind_inv hb
    show wpAny _ _ (oneLt' false x y) _ _ _
    have hroom : A.units + min d.depth d'.depth < cLine := Nat.lt_of_le_of_lt (Nat.add_le_add_left (Nat.min_le_left _ _) _) (hu d hd)
    exact PySem.W.oneLt_alike (fun z => Bool.noConfusion z) ra rb (hal d hd d' hd') (hn d hd) hroom hq
  · rw [e.length] at h2
    omega
theorem each_of {M : List Addr} {H : Hp} {s : Shared} {pins : List (Addr × Obj)} {σ : L2.St} (I : Inv X pins σ H s) : ∀ {xs : List V} {ds : List PyData} {its : List Value}, Drs (Fz M H) xs ds → Vals xs its →
    PySem.W.EachIs (fun v d => ∃ x, RelV x v ∧ Dr (Fz M H) x d) its ds ∧ PySem.W.EachIs (fun v d => ∃ as, Reads s.heap v d as) its ds
  | _, _, _, .nil, .nil => ⟨.nil, .nil⟩
  | _, _, _, .cons d1 dt, .cons r1 rt => by
    obtain ⟨h1, h2⟩ := each_of I dt rt
    exact ⟨.cons ⟨_, r1, d1⟩ h1, .cons (Dp.reads I _ _ _ (Dr.dp _ _ (Dr.sub Fz_sub _ _ d1)) r1) h2⟩
theorem each_back {F : Hp} : ∀ {its : List Value} {ds : List PyData}, PySem.W.EachIs (fun v d => ∃ x, RelV x v ∧ Dr F x d) its ds → ∃ xs, Vals xs its ∧ Drs F xs ds
  | _, _, .nil => ⟨[], .nil, .nil⟩
  | _, _, .cons ⟨x, r, d⟩ t => by
    obtain ⟨xs, h1, h2⟩ := each_back t
    exact ⟨x :: xs, .cons r h1, .cons d h2⟩
/-! sorting by insertion is the same -/
abbrev leD1 : PyData → PyData → Bool := PySem.W.dataLe false fun d => d
theorem le_tot : PySem.W.TotalLe leD1 := PySem.W.sortLe_total _ _ _
theorem ins_mem {x y : PyData} : ∀ {l : List PyData}, y ∈ insD x l → y = x ∨ y ∈ l
  | [], h => by
    unfold insD at h
    exact .inl (List.mem_singleton.mp h)
  | z :: r, h => by
    unfold insD at h
    split at h
    · rcases List.mem_cons.mp h with h | h
      · exact .inl h
      · exact .inr h
    · rcases List.mem_cons.mp h with h | h
      · exact .inr (h ▸ List.mem_cons_self)
      · rcases ins_mem h with h | h
        · exact .inl h
        · exact .inr (List.mem_cons_of_mem _ h)
theorem ins_ord {x : PyData} : ∀ {l : List PyData}, l.Pairwise (fun a b => leD1 a b = true) → (insD x l).Pairwise (fun a b => leD1 a b = true)
  | [], _ => by
    unfold insD
    exact List.pairwise_singleton _ _
  | z :: r, h => by
    have h1 := List.pairwise_cons.mp h
    unfold insD
    split
    · rename_i c
      refine List.pairwise_cons.mpr ⟨fun y hy => ?_, h⟩
      rcases List.mem_cons.mp hy with rfl | hy
      · exact c
      · exact le_tot.trans x z y c (h1.1 y hy)
    · rename_i c
      refine List.pairwise_cons.mpr ⟨fun y hy => ?_, ins_ord h1.2⟩
      rcases ins_mem hy with rfl | hy
      · exact (le_tot.total y z).resolve_left c
      · exact h1.1 y hy
theorem ins_keeps {x z : PyData} : ∀ {l : List PyData}, (insD x l).filter (PySem.W.Srt.alike leD1 z) = (x :: l).filter (PySem.W.Srt.alike leD1 z)
  | [] => rfl
  | y :: r => by
    unfold insD
    split
    · rfl
    · rename_i c
      have ih := ins_keeps (x := x) (z := z) (l := r)
      rw [List.filter_cons] at ih ⊢
      rw [List.filter_cons, List.filter_cons, ih]
      cases hx : PySem.W.Srt.alike leD1 z x with
      | false => simp
      | true =>
        cases hy : PySem.W.Srt.alike leD1 z y with
        | false => simp [hx]
        | true =>
          unfold PySem.W.Srt.alike at hx hy
          rw [Bool.and_eq_true] at hx hy
          exact absurd (le_tot.trans x z y hx.2 hy.1) c
theorem sort_ord : ∀ l : List PyData, (sortD l).Pairwise (fun a b => leD1 a b = true)
  | [] => List.Pairwise.nil
  | x :: r => ins_ord (sort_ord r)
theorem sort_keeps (z : PyData) : ∀ l : List PyData, (sortD l).filter (PySem.W.Srt.alike leD1 z) = l.filter (PySem.W.Srt.alike leD1 z)
  | [] => rfl
  | x :: r => by
    rw [sortD, ins_keeps, List.filter_cons, List.filter_cons, sort_keeps z r]
theorem sort_same (l : List PyData) : sortD l = l.mergeSort leD1 := PySem.W.Srt.the leD1 le_tot.trans (fun x y => Bool.or_eq_true_iff.mpr (le_tot.total x y)) (sort_ord l) fun z => sort_keeps z l
section
variable {prog : Program} {w : World} {A : Around} {E : Value → Shared → Prop} {s : Shared}
/-- the items of a tuple, taken into a new list -/
theorem taken_tuple {t : Addr} {us : List Value} {Q : List Value → Shared → Prop} (ht : IsTup s.heap t us.toArray) (hz : us.length ≤ sizeLine)
    (fin : Q us { s with heap := (s.heap.push (PyProof.Rows.seqObj "list" #[] 0)).update s.heap.objs.size (Obj.mapSeq fun z => z ++ us.toArray) }) : wpAny (model prog w) A (collect (.ref t)) Q E s := by
  obtain ⟨ob, hob, hcl, k, hdt⟩ := ht
  unfold collect
  refine wpAny_bind (wpAny_runValue (codeAny_builtin PyProof.Rows.entry_proto_collect' ?_))
  show wpAny _ _ (do PySem.again (.builtin "list.__iadd__" ⟨[← newList [], .ref t], []⟩)) _ _ s
  refine wpAny_bind (wpAny_newList (wpAny_pure ⟨Code.quiet_builtin _ (by decide +kernel), codeAny_builtin PyProof.Rows.entry_list_iadd' ?_⟩))
  show wpAny _ _ (Builtin.List.listExtendWith (.ref s.heap.objs.size) (.ref t) (.ref s.heap.objs.size)) _ _ { s with heap := s.heap.push (PyProof.Rows.seqObj "list" #[] 0) }
  unfold Builtin.List.listExtendWith
  have hob2 : (s.heap.push (PyProof.Rows.seqObj "list" #[] 0)).get? t = some ob := Heap.get?_push_of_some _ hob
  refine wpAny_bind (wpAny_typeOf (T := "tuple") ⟨ob, hob2, hcl⟩ ?_)
  have tt : (Value.type "tuple" == Value.type "tuple") = true := by rfl
  rw [if_pos (by rw [tt]; simp)]
  refine wpAny_bind (PyProof.Rows.listItems_at hob2 hdt ?_)
  refine wpAny_bind (PyProof.Rows.listItems_at (xs := #[]) (n := 0) (Heap.get?_push_size _ rfl) rfl ?_)
  rw [if_neg (by simp)]
  have sz : (#[] ++ us.toArray).size ≤ sizeLine + 1 := by
    simp only [Array.size_append, List.size_toArray, List.length_nil]
    omega
  refine wpAny_bind (PyProof.Rows.listUpdate_at (xs := #[]) (n := 0) (Heap.get?_push_size _ rfl) rfl ?_ (Nat.zero_le _) sz)
  refine wpAny_pure ?_
  show wpAny (model prog w) A (do
      let got ← load s.heap.objs.size
      match got.data with
      | .seq zs _ => pure zs.toList
      | _ => unsupported "internal:collect") Q E { s with heap := (s.heap.push (PyProof.Rows.seqObj "list" #[] 0)).update s.heap.objs.size (Obj.mapSeq fun z => z ++ us.toArray) }
  refine wpAny_bind (wpAny_load (PyProof.Rows.get?_update_seq (Heap.get?_push_size _ rfl) _) ?_)
  have eq1 : ((#[] : Array Value) ++ us.toArray).toList = us := by simp
  show wpAny _ _ (pure ((#[] : Array Value) ++ us.toArray).toList) Q E _
  rw [eq1]
  exact wpAny_pure fin
/-- sorted(t) of a tuple -/
theorem sorted_tuple {κ : PyProof.Rows.KeyKind} {t : Addr} {us : List Value} {Q : Value → Shared → Prop} (ht : IsTup s.heap t us.toArray) (S : PySem.W.SortsAt prog w A.in1.in1 { s with heap := PySem.W.sortingHeap (PySem.W.copyHeap s.heap us) (s.heap.objs.size + 1) us } κ us) (hz : us.length ≤ sizeLine)
    (fin : Q (.ref (s.heap.objs.size + 1)) { s with heap := PyProof.Rows.sortedAll s.heap us (PySem.W.sortVals κ false us us).toArray }) : wpAny (model prog w) A (call (.builtin "sorted") [.ref t]) Q E s := by
  refine Calls.call_function_entry PyProof.Rows.kind_sorted PyProof.Rows.plain_sorted PyProof.Rows.entry_sorted (PyProof.Rows.args_sorted1 _) ?_
  unfold Builtin.«sorted»
  refine wpAny_bind (m := checkCount "sorted" 1 1 _) (wpAny_pure ?_)
  refine wpAny_bind (taken_tuple ht hz ?_)
  refine wpAny_bind (wpAny_newList ?_ hz)
  have two : ((s.heap.push (PyProof.Rows.seqObj "list" #[] 0)).update s.heap.objs.size (Obj.mapSeq fun z => z ++ us.toArray)).objs.size = s.heap.objs.size + 1 := by rw [Heap.size_update, PyProof.Rows.size_push']
  show wpAny _ _ _ _ _ { s with heap := PySem.W.copyHeap s.heap us }
  rw [two]
  refine wpAny_bind (wpAny_holding (PyProof.Rows.wpAny_call_entry_kw PyProof.Rows.slot_list_sort ⟨_, PySem.W.copyHeap_at s.heap us, rfl⟩ PyProof.Rows.entry_list_sort ?go (PyProof.Rows.args_list_sort _)))
  case go =>
    refine PySem.W.list_sort_vals (s := { s with heap := PySem.W.copyHeap s.heap us }) (PySem.W.copyHeap_at s.heap us) S hz ?_
    exact ⟨_, rfl, wpAny_pure ⟨_, rfl, fin⟩⟩
end
theorem cr_sortedD (hu : X.A.units + 65 + 2 < cLine) : CallR X (.builtin "sorted") (rOne X sortedD) := by
  intro pins s σ H xs us Q I r ⟨x, M, st, v, d, E, exs, S, ev, hd, h⟩
  subst exs
  obtain ⟨ds, e, h⟩ : ∃ ds, seqOf d = some ds ∧ OkX X M H (ofO st (sortO ds)) Q E := by
    unfold sortedD at h
    split at h
    · exact ⟨_, rfl, h⟩
    · exact ⟨_, rfl, h⟩
    · exact h.elim
  unfold sortO at h
  by_cases c : sortable ds = true
  · rw [if_pos c] at h
    replace h : OkX X M H (.ok (.dat (.list (sortD ds))) st) Q E := h
    simp only [sortable, Bool.and_eq_true, decide_eq_true_eq] at c
    obtain ⟨⟨⟨cA, cO⟩, cD⟩, cL⟩ := c
    have hal := alikes_of cA
    obtain ⟨a, ys, rfl, h2, cc⟩ := seq_of (rd_top S ev hd) e X.K
    obtain ⟨its, rv, src⟩ : ∃ its : List Value, Vals ys its ∧ (s.heap.IsList a its.toArray ∨ IsTup s.heap a its.toArray) := by
      rcases cc with ⟨_, cc⟩ | ⟨_, cc⟩
      · obtain ⟨its, rv, ⟨og, n, hog, hc, hdt0, hdd⟩, _⟩ := Inv.list I cc
        exact ⟨its, rv, .inl ⟨og, hog, hc, n, by first | exact hdd | exact hdd.1 | exact hdd.1.symm⟩⟩
      · obtain ⟨its, rv, g, _⟩ := Inv.tuple I (SqT.fz cc)
        exact ⟨its, rv, .inr g⟩
    rw [Vals.ref1 r]
    obtain ⟨e1, e2⟩ := each_of I h2 rv
    have units : ∀ dd, dd ∈ ds → X.A.units + 2 + dd.depth < cLine := fun dd hdd => by
      have := depth_mem hdd
      omega
    have hL : its.length ≤ sizeLine := by
      rw [e1.length]
      exact Nat.le_trans cL lim_line
    have er' : PySem.W.EachIs (fun v b => ∃ as, Reads (PySem.W.sortingHeap (PySem.W.copyHeap s.heap its) (s.heap.objs.size + 1) its) v b as) its ds := e2.mono fun _ _ ⟨as, q⟩ => ⟨as, PyProof.Rows.Reads.keeps (fun _ _ => PySem.W.sorting_copy_old) q⟩
    have SA : PySem.W.SortsAt X.prog X.w X.A.in1.in1 { s with heap := PySem.W.sortingHeap (PySem.W.copyHeap s.heap its) (s.heap.objs.size + 1) its } (PySem.W.dataKind (PySem.W.sortingHeap (PySem.W.copyHeap s.heap its) (s.heap.objs.size + 1) its) ds) its := by
      have uu : ∀ dd, dd ∈ ds → X.A.in1.in1.units + dd.depth < cLine := fun dd hdd => by
        have := units dd hdd
        show X.A.units + 1 + 1 + _ < _
        omega
      rw [Bool.or_eq_true] at cO
      rcases cO with cO | cO
      · exact PySem.W.SortsAt.data (s := { s with heap := PySem.W.sortingHeap (PySem.W.copyHeap s.heap its) (s.heap.objs.size + 1) its }) er' hal (plainOrd_of cO) uu
      · rw [Bool.and_eq_true, decide_eq_true_eq, List.all_eq_true] at cO
        exact sorts_few (s := { s with heap := PySem.W.sortingHeap (PySem.W.copyHeap s.heap its) (s.heap.objs.size + 1) its }) er' hal cO.1 (fun dd hdd => isNone_ne (cO.2 dd hdd)) uu
    have out := PySem.W.sortVals_data (h' := PySem.W.sortingHeap (PySem.W.copyHeap s.heap its) (s.heap.objs.size + 1) its) (enc := fun d => d) (bs := ds) false e1 er' (by rw [List.map_id']; exact hal)
    rw [List.map_id', show ds.mergeSort (PySem.W.dataLe false fun d => d) = sortD ds from (sort_same ds).symm] at out
    obtain ⟨zs, rz, dz⟩ := each_back out
    obtain ⟨c2, hc2⟩ := PyProof.Rows.sortedAll_at s.heap its (PySem.W.sortVals (PySem.W.dataKind (PySem.W.sortingHeap (PySem.W.copyHeap s.heap its) (s.heap.objs.size + 1) its) ds) false its its).toArray
    have hf : H (s.heap.objs.size + 1) = none := I.hok.fresh (Nat.le_succ _)
    have hzl : zs.length ≤ sizeLine := by
      rw [rz.length, PySem.W.sortVals_length false rfl]
      exact hL
    have fin : ∃ u H', Inv X pins σ H' { s with heap := PyProof.Rows.sortedAll s.heap its (PySem.W.sortVals (PySem.W.dataKind (PySem.W.sortingHeap (PySem.W.copyHeap s.heap its) (s.heap.objs.size + 1) its) ds) false its its).toArray } ∧ RelV u (.ref (s.heap.objs.size + 1)) ∧ Q u H' :=
      ⟨.ref _, upd H (s.heap.objs.size + 1) (.lst zs), I.laid (t' := s.toks) (fun _ _ => PyProof.Rows.sortedAll_old) (Nat.le_succ _) ⟨hzl, _, c2, rz, hc2⟩, rfl, h.newL S dz _ hf⟩
    rcases src with lst | tup
    · exact PySem.W.sorted_vals lst SA hL fin
    · exact sorted_tuple tup SA hL fin
  · rw [if_neg c] at h
    exact h.elim
theorem minD_mem : ∀ (r : List PyData) (d : PyData), PySem.W.minD d r ∈ d :: r
  | [], d => List.mem_cons_self
  | y :: r, d => by
    have h := minD_mem r (if PySem.W.dataLt y d then y else d)
    show PySem.W.minD (if PySem.W.dataLt y d then y else d) r ∈ d :: y :: r
    rcases List.mem_cons.mp h with e | h
    · rw [e]
      split
      · exact List.mem_cons_of_mem _ List.mem_cons_self
      · exact List.mem_cons_self
    · exact List.mem_cons_of_mem _ (List.mem_cons_of_mem _ h)
theorem cr_minLD (hc : X.calm = true) (hu : X.A.units + 66 < cLine) : CallR X (.builtin "min") (rOne X minLD) := by
  intro pins s σ H xs us Q I r ⟨x, M, st, v, d, E, exs, S, ev, hd, h⟩
  subst exs
  unfold minLD at h
  split at h
  · rename_i d0 r0
    by_cases c : minOk (d0 :: r0) = true
    · rw [if_pos c] at h
      replace h : OkX X M H (.ok (.dat (PySem.W.minD d0 r0)) st) Q E := h
      simp only [minOk, Bool.and_eq_true, decide_eq_true_eq] at c
      obtain ⟨⟨⟨cA, cL⟩, cN⟩, cD⟩ := c
      have hal := alikes_of cA
      rw [List.all_eq_true] at cN
      obtain ⟨a, ys, rfl, h1, h2⟩ := (rd_top S ev hd).list
      obtain ⟨_, its, n, rv, hl, g⟩ := Inv.lstR I h1
      rw [Vals.ref1 r]
      have lst : s.heap.IsList a its.toArray := ⟨_, g, rfl, n, rfl⟩
      obtain ⟨as, rs⟩ := Dp.readsAll I (d0 :: r0) ys its (Drs.dp _ _ (Drs.sub Fz_sub _ _ h2)) rv
      refine PySem.W.min_list_data (I.ok.hd hc) lst rs ⟨hal, fun y hy => isNone_ne (cN y hy)⟩ (by omega) fun i z h' tk bs hi rm keep => ?_
      have hi' : its[i]? = some z := by simpa using hi
      obtain ⟨x, hx⟩ : ∃ x, ys[i]? = some x := by
        have : i < ys.length := by
          rw [rv.length]
          exact (List.getElem?_eq_some_iff.mp hi').1
        exact ⟨_, List.getElem?_eq_getElem this⟩
      obtain ⟨z', hz', rz⟩ := rv.get hx
      have ez : z' = z := Option.some.inj (hz'.symm.trans hi')
      subst ez
      obtain ⟨dd, hdd, dr⟩ := h2.getV hx
      have I2 : Inv X pins σ H { s with heap := h', toks := tk } := I.kept keep
      obtain ⟨cs, r2⟩ := Dp.reads I2 dd x z' (Dr.dp _ _ (Dr.sub Fz_sub _ _ dr)) rz
      have mm : PySem.W.minD d0 r0 ∈ d0 :: r0 := minD_mem r0 d0
      have ed : dd = PySem.W.minD d0 r0 := PySem.W.alike_unique _ _ _ _ _ (hal _ (List.mem_of_getElem? hdd) _ mm) r2 rm
      subst ed
      exact ⟨x, H, I2, rz, h.same S dr⟩
    · rw [if_neg c] at h
      exact h.elim
  · exact h.elim
end
end PD

set_option Elab.async false
set_option linter.all false
set_option maxRecDepth 100000
set_option maxHeartbeats 1000000
/-! What a loop goes over. -/
namespace PD
open PySem PySem.Spec PyProof.Rows L2
section
/-! ### enumerate(a tuple) -/
abbrev titO (l : Addr) : Obj := { cls := .type "tuple_iterator", data := .fields #[.ref l, .int 0 0] }
abbrev enuO (a : Addr) : Obj := { cls := .type "enumerate", data := .fields #[.none, .bool false, .ref a, rawInt 0, .none, .none] }
theorem new_enumT (l : Addr) (items : Array Value) (n : Nat) (dct : Option Addr) (sl : Array (Option Value)) :
    Meets (Builtin.«enumerate.__new__» ⟨[.type "enumerate", .ref l], []⟩) (fun _ R s =>
      s.heap.get? l = some { cls := .type "tuple", dict := dct, data := .seq items n, slots := sl } ∧
      R (.ok (.ret (.ref (s.heap.objs.size + 1))))
        { s with heap := (s.heap.push (titO l)).push (enuO s.heap.objs.size) }) :=
  .of_wp fun prog w A R s h => by
    obtain ⟨hp, g, d, tk, os⟩ := s
    obtain ⟨hl, h⟩ := h
    have sub1 := sub_enumerate
    have there : Heap.IsTuple (Shared.heap ⟨hp, g, d, tk, os⟩) l items := ⟨_, hl, rfl, n, rfl⟩
    have sz : (hp.push (titO l)).objs.size = hp.objs.size + 1 := Heap.size_push ..
    have h' : R (.ok (.ret (.ref (hp.push (titO l)).objs.size)))
        ⟨(hp.push (titO l)).push (enuO hp.objs.size), g, d, tk, os⟩ := by
      rw [sz]
      exact h
    wp_walk using wpAny_loadPart' hl
    refine wpAny_stack_any fun stk => wpAny_pure ?_
    split
    · rename_i c _ _ _ _ _
      cases (c == Value.type "enumerate")
      all_goals
        (wp_walk using wpAny_loadPart' hl, wpAny_pyIter_tuple there
         exact ⟨_, rfl, h'⟩)
    · wp_walk using wpAny_loadPart' hl, wpAny_pyIter_tuple there
      exact ⟨_, rfl, h'⟩
theorem call_enumT {prog : Program} {w : World} {A : Around} {E : Value → Shared → Prop} {s : Shared} {l : Addr} {items : Array Value} {Q : Value → Shared → Prop} (hL : s.heap.IsTuple l items)
    (h : ∀ h', IsEnum h' (s.heap.objs.size + 1) s.heap.objs.size 0 .none → h'.IsTupleIter s.heap.objs.size l 0 →
      (∀ b o, s.heap.get? b = some o → h'.get? b = some o) → Q (.ref (s.heap.objs.size + 1)) { s with heap := h' }) :
    wpAny (model prog w) A (call (.type "enumerate") [.ref l]) Q E s := by
  obtain ⟨⟨c, dct, dt, sl⟩, hl, hc, n, hd⟩ := hL
  dsimp only at hc hd
  subst hc hd
  have sz : (s.heap.push (titO l)).objs.size = s.heap.objs.size + 1 := Heap.size_push ..
  have he : IsEnum ((s.heap.push (titO l)).push (enuO s.heap.objs.size)) (s.heap.objs.size + 1) s.heap.objs.size 0 .none := by
    have q := Heap.get?_push_size (s.heap.push (titO l)) (o := enuO s.heap.objs.size) rfl
    rw [sz] at q
    exact q
  refine callType_new F.called_enumerate (by decide) (F.typeCall_enumerate_1 _) (F.newCall_enumerate_1 _)
    (fun obj => F.args_object_init_2 obj _) F.entry_enumerate_new (new_enumT l items n dct sl) ⟨hl, ⟨_, he, rfl⟩, ?_⟩
  refine h _ he ⟨_, Heap.get?_push_of_some _ (Heap.get?_push_size _ rfl), rfl, rfl⟩ fun b o x => ?_
  exact Heap.get?_push_of_some _ (Heap.get?_push_of_some _ x)
def IteT (a : Addr) : It :=
  ⟨fun i H => ∃ (xs : List V) (x : V), H a = some (.tup xs) ∧ xs[i]? = some x,
    fun i H v H' => ∃ T x, v = .ref T ∧ H T = none ∧ H' = upd H T (.tup [.int (i : Nat), x]) ∧ ∀ xs, H a = some (.tup xs) → xs[i]? = some x,
    fun i H => ∃ xs : List V, H a = some (.tup xs) ∧ xs.length = i⟩
theorem turn_enumT {P : Program} {w : World} {K : PySem.W.Frag} {elts : List Expr} {kk : Nat} {tpos : Pos} (a e it : Addr) :
    Turn P w K (.Tuple elts kk tpos) (IteT a) [e, it] e (fun i h => (∃ old, IsEnum h e it ((i : Nat) : Int) old) ∧ h.IsTupleIter it a i ∧ e ≠ it) where
  mem := List.mem_cons_self
  obj := fun i h ⟨⟨old, he⟩, ⟨o, ho, hc, hd⟩, _⟩ b hb => by
    rcases (by simpa using hb : b = e ∨ b = it) with rfl | rfl
    · exact ⟨_, he, fun v q => nomatch q⟩
    · exact ⟨o, ho, fun v q => by
        rw [hd] at q
        cases q⟩
  keep := fun i h h' ⟨⟨old, he⟩, hi, ne⟩ k => ⟨⟨old, k e List.mem_cons_self _ he⟩, hi.at fun o q => k it (by simp) o q, ne⟩
  item := by
    intro X hP hw hK hc i pins s σ H E I hf st hg
    subst hP hw hK
    obtain ⟨⟨old, he⟩, hit, ne⟩ := st
    obtain ⟨xs, x, hq, hx⟩ := hg
    obtain ⟨its, rv, p, hz⟩ := I.tuple (SqT.of hq)
    have nai : a ≠ it := ne_of_none hq (hf it (by simp)).1
    have nae : a ≠ e := ne_of_none hq (hf e (by simp)).1
    have hel : e < s.heap.objs.size := Heap.lt_size he
    have hil : it < s.heap.objs.size := by
      obtain ⟨_, q, _⟩ := hit
      exact Heap.lt_size q
    have hi : i < its.toArray.size := by
      rw [List.size_toArray, ← rv.length]
      exact (List.getElem?_eq_some_iff.mp hx).1
    have D := Draws.tuple (prog := X.prog) (w := X.w) (A := X.A.in1) (I.ok.hd hc) it a nai its.toArray
    refine wpAny_pyNext_enum_itemD D he ⟨hit, p⟩ hi ne (by simp [ne, Ne.symm nae]) fun u h' tk hu ho hit' hT hsz hk => ?_
    have hu' : its[i]? = some u := by simpa using hu
    obtain ⟨u2, e2, ru⟩ := rv.get hx
    have eu : u2 = u := Option.some.inj (e2.symm.trans hu')
    subst eu
    refine ⟨_, rfl, wpAny_letOwnedTupleGo_enum (s := { s with heap := h', toks := tk + 1 }) ho fun h'' he' sb => ?_⟩
    have hT2 : h''.get? s.heap.objs.size = some { cls := .type "tuple", data := .seq #[.int i tk, u2] } := (sb.2 _ (Nat.ne_of_gt hel)).trans hT
    have new : ObjOk X.prog X.w (upd H s.heap.objs.size (.tup [.int (i : Nat), x])) h'' s.heap.objs.size (.tup [.int (i : Nat), x]) :=
      ⟨by show 2 ≤ sizeLine; decide, [.int i tk, u2], .cons ⟨_, rfl⟩ (.cons ru .nil), _, hT2, rfl, _, rfl⟩
    have keep : ∀ b ob, b ∉ [e, it] → s.heap.get? b = some ob → h''.get? b = some ob := fun b ob hb q => by
      have n1 : b ≠ e := fun z => hb (by simp [z])
      have n2 : b ≠ it := fun z => hb (by simp [z])
      exact (sb.2 b n1).trans (hk b ob n1 n2 q)
    have I1 := I.turnedNew (t' := tk + 1) (ch := [e, it]) keep hf (Nat.le_refl _) new
    refine ⟨.ref s.heap.objs.size, _, I1, rfl, ⟨_, x, rfl, I.hok.fresh (Nat.le_refl _), rfl, fun ys hy => ?_⟩, ⟨⟨u2, ?_⟩, hit'.1.at fun o q => (sb.2 it (Ne.symm ne)).trans q, ne⟩, fun b hb => ?_⟩
    · have ey : ys = xs := by
        rw [hq] at hy
        cases hy
        rfl
      rw [ey]
      exact hx
    · have e1 : ((i + 1 : Nat) : Int) = (i : Int) + 1 := by omega
      rw [e1]
      exact he'
    · have hlt : b < s.heap.objs.size := by
        rcases (by simpa using hb : b = e ∨ b = it) with rfl | rfl
        · exact hel
        · exact hil
      rw [upd_ne (Nat.ne_of_lt hlt)]
      exact (hf b hb).1
  done := by
    intro X hP hw hK hc i pins s σ H E I hf st hg
    subst hP hw hK
    obtain ⟨⟨old, he⟩, hit, ne⟩ := st
    obtain ⟨xs, hq, hx⟩ := hg
    obtain ⟨its, rv, p, hz⟩ := I.tuple (SqT.of hq)
    have nai : a ≠ it := ne_of_none hq (hf it (by simp)).1
    obtain ⟨f0, f1, f2, f3, f4, f5⟩ := hf it (by simp)
    have hn : its.toArray.size = i := by rw [List.size_toArray, ← rv.length, hx]
    have D := Draws.tuple (prog := X.prog) (w := X.w) (A := X.A.in1) (I.ok.hd hc) it a nai its.toArray
    rw [hn] at D
    exact wpAny_pyNext_enum_endD D he ⟨hit, p⟩ fun h' eb => ⟨rfl, I.turned (t' := s.toks) (fun b o hb q => eb b o hb q) f0 f1 f3 f4 f5⟩
  self := fun A i s Q E ⟨⟨_, he⟩, _⟩ h => wpAny_pyIter_enum he h
end
end PD

set_option Elab.async false
set_option linter.all false
set_option maxRecDepth 100000
set_option maxHeartbeats 1000000
/-! What a loop goes over, as the evaluator has it. -/
namespace PD
open PySem PySem.Spec PyProof.Rows L2
section
/-- J yields the items, from this moment on -/
structure Wk (X : Cx) (M : List Addr) (H : Hp) (its : Items) (J : It) : Prop where
  go : ∀ (i : Nat) (M2 : List Addr) (H2 : Hp) (st : Store), Ext M H M2 H2 → SR X M2 H2 st → guardOk its.src st = true → i < its.ds.length → J.go i H2
  stop : ∀ (M2 : List Addr) (H2 : Hp) (st : Store), Ext M H M2 H2 → SR X M2 H2 st → guardOk its.src st = true → J.stop its.ds.length H2
  yld : ∀ (i : Nat) (d : PyData) (M2 : List Addr) (H2 : Hp) (st : Store) (x : V) (H3 : Hp), Ext M H M2 H2 → SR X M2 H2 st → guardOk its.src st = true → its.ds[i]? = some d → J.yld i H2 x H3 →
    Ext M2 H2 M2 H3 ∧ SR X M2 H3 st ∧ Dr (Fz M2 H3) x d
/-- a value that is gone over -/
inductive SrcV (X : Cx) (M : List Addr) (H : Hp) : V → Items → Prop where
  | lst {a : Addr} {its : Items} : (∀ (M2 : List Addr) (H2 : Hp) (st : Store), Ext M H M2 H2 → SR X M2 H2 st → guardOk its.src st = true → ∃ xs, Rd H2 a (.lst xs) ∧ Drs (Fz M2 H2) xs its.ds) → SrcV X M H (.ref a) its
  | tup {a : Addr} {xs : List V} {its : Items} : Fz M H a = some (.tup xs) → Drs (Fz M H) xs its.ds → SrcV X M H (.ref a) its
  | str {x : Str} {its : Items} : its.ds = (x.cps.toList.map fun c => PyData.str ⟨#[c]⟩) → SrcV X M H (.str x) its
variable {X : Cx} {M : List Addr} {H : Hp} {st : Store}
theorem src_cell {n : Nat} {a : Addr} {ds : List PyData} (m : M[n]? = some a) : SrcV X M H (.ref a) ⟨ds, some (n, ds)⟩ := by
  refine .lst fun M2 H2 st2 x S2 g => ?_
  have m2 := x.get m
  unfold guardOk at g
  dsimp only at g
  cases q : st2[n]? with
  | none => rw [q] at g; cases g
  | some c =>
    rw [q] at g
    cases c with
    | dict kvs => cases g
    | lst es =>
      have e : es = ds := sames_eq es ds g
      subst e
      obtain ⟨xs, h1, h2⟩ := S2.cell n _ a q m2
      exact ⟨xs, .inl h1, h2⟩
theorem src_data {x : V} {d : PyData} {ds : List PyData} (h : Dr (Fz M H) x d) (e : seqOf d = some ds) : SrcV X M H x ⟨ds, none⟩ := by
  cases h with
  | lst h1 h2 =>
    cases e
    refine .lst fun M2 H2 st2 z S2 g => ?_
    exact ⟨_, Rd.sub (Sub.trans z.fz Fz_sub) h1, Drs.sub z.fz _ _ h2⟩
  | tup h1 h2 =>
    cases e
    exact .tup h1 h2
  | _ => cases e
theorem src_seq {x : V} {v : EV} {its : Items} (h : EVr (Fz M H) M x v) (e : seqItems st v = some its) : SrcV X M H x its := by
  cases v with
  | dat d =>
    cases d with
    | list ds => cases e; exact src_data h rfl
    | tuple ds => cases e; exact src_data h rfl
    | _ => cases e
  | loc n =>
    obtain ⟨a, m, rfl⟩ := h
    unfold seqItems at e
    dsimp only at e
    split at e
    · cases e
      exact src_cell m
    · cases e
theorem src_of {x : V} {v : EV} {its : Items} (h : EVr (Fz M H) M x v) (e : itemsOf st v = some its) : SrcV X M H x its := by
  cases v with
  | dat d =>
    cases d with
    | list ds => cases e; exact src_data h rfl
    | tuple ds => cases e; exact src_data h rfl
    | str z =>
      cases e
      cases h
      exact .str rfl
    | _ => cases e
  | loc n =>
    obtain ⟨a, m, rfl⟩ := h
    unfold itemsOf at e
    dsimp only at e
    split at e
    · cases e
      exact src_cell m
    · cases e
theorem guard_seq {v : EV} {its : Items} (e : seqItems st v = some its) : guardOk its.src st = true := by
  cases v with
  | dat d =>
    cases d <;> first
      | (cases e; done)
      | (cases e; rfl)
  | loc n =>
    unfold seqItems at e
    dsimp only at e
    split at e
    · rename_i ds q
      cases e
      unfold guardOk
      dsimp only
      rw [q]
      exact sames_refl ds
    · cases e
theorem guard_of {v : EV} {its : Items} (e : itemsOf st v = some its) : guardOk its.src st = true := by
  cases v with
  | dat d =>
    cases d <;> first
      | (cases e; done)
      | (cases e; rfl)
  | loc n =>
    unfold itemsOf at e
    dsimp only at e
    split at e
    · rename_i ds q
      cases e
      unfold guardOk
      dsimp only
      rw [q]
      exact sames_refl ds
    · cases e
/-! ### the iterators -/
theorem wk_list {a : Addr} {its : Items} (h : ∀ (M2 : List Addr) (H2 : Hp) (st : Store), Ext M H M2 H2 → SR X M2 H2 st → guardOk its.src st = true → ∃ xs, Rd H2 a (.lst xs) ∧ Drs (Fz M2 H2) xs its.ds) : Wk X M H its (Itl X.K a) where
  go := fun i M2 H2 st x S g hi => by
    obtain ⟨xs, h1, h2⟩ := h M2 H2 st x S g
    have hi' : i < xs.length := by rw [h2.length]; exact hi
    exact ⟨xs, xs[i], .inl h1, List.getElem?_eq_getElem hi'⟩
  stop := fun M2 H2 st x S g => by
    obtain ⟨xs, h1, h2⟩ := h M2 H2 st x S g
    exact ⟨xs, .inl h1, Nat.le_of_eq h2.length⟩
  yld := fun i d M2 H2 st v H3 x S g hd y => by
    obtain ⟨xs, h1, h2⟩ := h M2 H2 st x S g
    obtain ⟨rfl, y⟩ := y
    have e := y xs (.inl h1)
    obtain ⟨u, e2, r⟩ := h2.get hd
    have ev : u = v := Option.some.inj (e2.symm.trans e)
    subst ev
    exact ⟨Ext.refl _ _, S, r⟩
theorem wk_tup {a : Addr} {xs : List V} {its : Items} (h1 : Fz M H a = some (.tup xs)) (h2 : Drs (Fz M H) xs its.ds) : Wk X M H its (Itt X.K a) where
  go := fun i M2 H2 st x S g hi => by
    have hi' : i < xs.length := by rw [h2.length]; exact hi
    exact ⟨xs, xs[i], .inl (.inl (Fz_at (x.fz _ _ h1)).1), List.getElem?_eq_getElem hi'⟩
  stop := fun M2 H2 st x S g => ⟨xs, .inl (.inl (Fz_at (x.fz _ _ h1)).1), Nat.le_of_eq h2.length⟩
  yld := fun i d M2 H2 st v H3 x S g hd y => by
    obtain ⟨rfl, y⟩ := y
    have e := y xs (.inl (.inl (Fz_at (x.fz _ _ h1)).1))
    obtain ⟨u, e2, r⟩ := (Drs.sub x.fz _ _ h2).get hd
    have ev : u = v := Option.some.inj (e2.symm.trans e)
    subst ev
    exact ⟨Ext.refl _ _, S, r⟩
theorem wk_str {z : Str} {its : Items} (e : its.ds = (z.cps.toList.map fun c => PyData.str ⟨#[c]⟩)) : Wk X M H its (Its z) where
  go := fun i M2 H2 st x S g hi => by
    rw [e, List.length_map] at hi
    exact (by simpa using hi : i < z.cps.size)
  stop := fun M2 H2 st x S g => by
    rw [e, List.length_map]
    exact (by simp : z.cps.size ≤ z.cps.toList.length)
  yld := fun i d M2 H2 st v H3 x S g hd y => by
    obtain ⟨rfl, c, hc, rfl⟩ := y
    rw [e, List.getElem?_map] at hd
    have q : z.cps.toList[i]? = some c := by simpa using hc
    rw [q] at hd
    cases hd
    exact ⟨Ext.refl _ _, S, .str _⟩
theorem wk_enumL {a : Addr} {its : Items} (h : ∀ (M2 : List Addr) (H2 : Hp) (st : Store), Ext M H M2 H2 → SR X M2 H2 st → guardOk its.src st = true → ∃ xs, Rd H2 a (.lst xs) ∧ Drs (Fz M2 H2) xs its.ds)
    {es : List PyData} (el : es.length = its.ds.length) (ee : ∀ (i : Nat) (d : PyData), es[i]? = some d → ∃ u, its.ds[i]? = some u ∧ d = .tuple [.int (i : Nat), u]) : Wk X M H ⟨es, its.src⟩ (Ite X.K a) where
  go := fun i M2 H2 st x S g hi => by
    obtain ⟨xs, h1, h2⟩ := h M2 H2 st x S g
    have hi' : i < xs.length := by rw [h2.length, ← el]; exact hi
    exact ⟨xs, xs[i], .inl h1, List.getElem?_eq_getElem hi'⟩
  stop := fun M2 H2 st x S g => by
    obtain ⟨xs, h1, h2⟩ := h M2 H2 st x S g
    exact ⟨xs, .inl h1, by rw [h2.length, ← el]; exact Nat.le_refl _⟩
  yld := fun i d M2 H2 st v H3 x S g hd y => by
    obtain ⟨xs, h1, h2⟩ := h M2 H2 st x S g
    obtain ⟨T, u, rfl, nT, rfl, y⟩ := y
    have e := y xs (.inl h1)
    obtain ⟨du, hdu, rfl⟩ := ee i d hd
    obtain ⟨u2, e2, r⟩ := h2.get hdu
    have ev : u2 = u := Option.some.inj (e2.symm.trans e)
    subst ev
    have xx : Ext M2 H2 M2 (upd H2 T (.tup [.int (i : Nat), u2])) := Ext.new nT
    exact ⟨xx, S.new nT, .tup (Fz_of upd_same (S.out nT)) (.cons (.int _) (.cons (Dr.sub xx.fz _ _ r) .nil))⟩
theorem wk_enumT {a : Addr} {xs : List V} {its : Items} (h1 : Fz M H a = some (.tup xs)) (h2 : Drs (Fz M H) xs its.ds)
    {es : List PyData} (el : es.length = its.ds.length) (ee : ∀ (i : Nat) (d : PyData), es[i]? = some d → ∃ u, its.ds[i]? = some u ∧ d = .tuple [.int (i : Nat), u]) : Wk X M H ⟨es, its.src⟩ (IteT a) where
  go := fun i M2 H2 st x S g hi => by
    have hi' : i < xs.length := by rw [h2.length, ← el]; exact hi
    exact ⟨xs, xs[i], (Fz_at (x.fz _ _ h1)).1, List.getElem?_eq_getElem hi'⟩
  stop := fun M2 H2 st x S g => ⟨xs, (Fz_at (x.fz _ _ h1)).1, by rw [h2.length, ← el]⟩
  yld := fun i d M2 H2 st v H3 x S g hd y => by
    obtain ⟨T, u, rfl, nT, rfl, y⟩ := y
    have e := y xs (Fz_at (x.fz _ _ h1)).1
    obtain ⟨du, hdu, rfl⟩ := ee i d hd
    obtain ⟨u2, e2, r⟩ := (Drs.sub x.fz _ _ h2).get hdu
    have ev : u2 = u := Option.some.inj (e2.symm.trans e)
    subst ev
    have xx : Ext M2 H2 M2 (upd H2 T (.tup [.int (i : Nat), u2])) := Ext.new nT
    exact ⟨xx, S.new nT, .tup (Fz_of upd_same (S.out nT)) (.cons (.int _) (.cons (Dr.sub xx.fz _ _ r) .nil))⟩
theorem enumD_length : ∀ (ds : List PyData) (k : Nat), (enumD k ds).length = ds.length
  | [], _ => rfl
  | _ :: r, k => by rw [enumD, List.length_cons, List.length_cons, enumD_length r (k + 1)]
theorem enumD_get : ∀ (ds : List PyData) (k i : Nat) (d : PyData), (enumD k ds)[i]? = some d → ∃ u, ds[i]? = some u ∧ d = .tuple [.int ((k + i : Nat) : Int), u]
  | [], _, _, _, h => by simp [enumD] at h
  | x :: r, k, 0, d, h => by
    simp only [enumD, List.getElem?_cons_zero, Option.some.injEq] at h
    exact ⟨x, rfl, h.symm⟩
  | x :: r, k, i + 1, d, h => by
    simp only [enumD, List.getElem?_cons_succ] at h
    obtain ⟨u, h1, h2⟩ := enumD_get r (k + 1) i d h
    refine ⟨u, by simpa using h1, ?_⟩
    rw [h2]
    have e : k + 1 + i = k + (i + 1) := by omega
    rw [e]
theorem zipD_length : ∀ (xs ys : List PyData), (zipD xs ys).length = min xs.length ys.length
  | [], ys => by simp [zipD]
  | _ :: _, [] => by simp [zipD]
  | _ :: xs, _ :: ys => by
    rw [zipD, List.length_cons, zipD_length xs ys, List.length_cons, List.length_cons]
    omega
theorem zipD_get : ∀ (xs ys : List PyData) (i : Nat) (d : PyData), (zipD xs ys)[i]? = some d → ∃ x y, xs[i]? = some x ∧ ys[i]? = some y ∧ d = .tuple [x, y]
  | [], ys, _, _, h => by simp [zipD] at h
  | _ :: _, [], _, _, h => by simp [zipD] at h
  | x :: xs, y :: ys, 0, d, h => by
    simp only [zipD, List.getElem?_cons_zero, Option.some.injEq] at h
    exact ⟨x, y, rfl, rfl, h.symm⟩
  | x :: xs, y :: ys, i + 1, d, h => by
    simp only [zipD, List.getElem?_cons_succ] at h
    obtain ⟨u, v, h1, h2, h3⟩ := zipD_get xs ys i d h
    exact ⟨u, v, by simpa using h1, by simpa using h2, h3⟩
theorem wk_zipL {a b : Addr} {xs ys : List V} {ds es : List PyData} (h1 : Rd (Fz M H) a (.lst xs)) (h2 : Drs (Fz M H) xs ds) (g1 : Rd (Fz M H) b (.lst ys)) (g2 : Drs (Fz M H) ys es) : Wk X M H ⟨zipD ds es, none⟩ (Itz X.K a b) where
  go := fun i M2 H2 st x S g hi => by
    have hl : i < (zipD ds es).length := hi
    rw [zipD_length] at hl
    have i1 : i < xs.length := by rw [h2.length]; omega
    have i2 : i < ys.length := by rw [g2.length]; omega
    exact ⟨xs, ys, xs[i], ys[i], .inl (Rd.sub (Sub.trans x.fz Fz_sub) h1), .inl (Rd.sub (Sub.trans x.fz Fz_sub) g1), List.getElem?_eq_getElem i1, List.getElem?_eq_getElem i2⟩
  stop := fun M2 H2 st x S g => by
    refine ⟨xs, ys, .inl (Rd.sub (Sub.trans x.fz Fz_sub) h1), .inl (Rd.sub (Sub.trans x.fz Fz_sub) g1), ?_⟩
    show xs.length ≤ (zipD ds es).length ∨ ys.length ≤ (zipD ds es).length
    rw [zipD_length, h2.length, g2.length]
    omega
  yld := fun i d M2 H2 st v H3 x S g hd y => by
    obtain ⟨T, u, v, rfl, nT, rfl, y1, y2⟩ := y
    have e1 := y1 xs (.inl (Rd.sub (Sub.trans x.fz Fz_sub) h1))
    have e2 := y2 ys (.inl (Rd.sub (Sub.trans x.fz Fz_sub) g1))
    obtain ⟨du, dv, q1, q2, rfl⟩ := zipD_get ds es i d hd
    obtain ⟨u2, f1, r1⟩ := (Drs.sub x.fz _ _ h2).get q1
    obtain ⟨v2, f2, r2⟩ := (Drs.sub x.fz _ _ g2).get q2
    have ev : u2 = u := Option.some.inj (f1.symm.trans e1)
    subst ev
    have ev2 : v2 = v := Option.some.inj (f2.symm.trans e2)
    subst ev2
    have xx : Ext M2 H2 M2 (upd H2 T (.tup [u2, v2])) := Ext.new nT
    exact ⟨xx, S.new nT, .tup (Fz_of upd_same (S.out nT)) (.cons (Dr.sub xx.fz _ _ r1) (.cons (Dr.sub xx.fz _ _ r2) .nil))⟩
theorem wk_zipT {a b : Addr} {xs ys : List V} {ds es : List PyData} (h1 : Fz M H a = some (.tup xs)) (h2 : Drs (Fz M H) xs ds) (g1 : Fz M H b = some (.tup ys)) (g2 : Drs (Fz M H) ys es) : Wk X M H ⟨zipD ds es, none⟩ (RZ.ItzT X.K a b) where
  go := fun i M2 H2 st x S g hi => by
    have hl : i < (zipD ds es).length := hi
    rw [zipD_length] at hl
    have i1 : i < xs.length := by rw [h2.length]; omega
    have i2 : i < ys.length := by rw [g2.length]; omega
    exact ⟨xs, ys, xs[i], ys[i], .inl (.inl (Fz_at (x.fz _ _ h1)).1), .inl (.inl (Fz_at (x.fz _ _ g1)).1), List.getElem?_eq_getElem i1, List.getElem?_eq_getElem i2⟩
  stop := fun M2 H2 st x S g => by
    refine ⟨xs, ys, .inl (.inl (Fz_at (x.fz _ _ h1)).1), .inl (.inl (Fz_at (x.fz _ _ g1)).1), ?_⟩
    show xs.length ≤ (zipD ds es).length ∨ ys.length ≤ (zipD ds es).length
    rw [zipD_length, h2.length, g2.length]
    omega
  yld := fun i d M2 H2 st v H3 x S g hd y => by
    obtain ⟨T, u, v, rfl, nT, rfl, y1, y2⟩ := y
    have e1 := y1 xs (.inl (.inl (Fz_at (x.fz _ _ h1)).1))
    have e2 := y2 ys (.inl (.inl (Fz_at (x.fz _ _ g1)).1))
    obtain ⟨du, dv, q1, q2, rfl⟩ := zipD_get ds es i d hd
    obtain ⟨u2, f1, r1⟩ := (Drs.sub x.fz _ _ h2).get q1
    obtain ⟨v2, f2, r2⟩ := (Drs.sub x.fz _ _ g2).get q2
    have ev : u2 = u := Option.some.inj (f1.symm.trans e1)
    subst ev
    have ev2 : v2 = v := Option.some.inj (f2.symm.trans e2)
    subst ev2
    have xx : Ext M2 H2 M2 (upd H2 T (.tup [u2, v2])) := Ext.new nT
    exact ⟨xx, S.new nT, .tup (Fz_of upd_same (S.out nT)) (.cons (Dr.sub xx.fz _ _ r1) (.cons (Dr.sub xx.fz _ _ r2) .nil))⟩
theorem rangeD_length : ∀ (n : Nat) (lo c : Int), (rangeD lo c n).length = n
  | 0, _, _ => rfl
  | n + 1, lo, c => by rw [rangeD, List.length_cons, rangeD_length n]
theorem rangeD_get : ∀ (n i : Nat) (lo c : Int) (d : PyData), (rangeD lo c n)[i]? = some d → d = .int (lo + (i : Nat) * c)
  | 0, _, _, _, _, h => by simp [rangeD] at h
  | n + 1, 0, lo, c, d, h => by
    simp only [rangeD, List.getElem?_cons_zero, Option.some.injEq] at h
    rw [← h]
    simp
  | n + 1, i + 1, lo, c, d, h => by
    simp only [rangeD, List.getElem?_cons_succ] at h
    rw [rangeD_get n i (lo + c) c d h]
    congr 1
    have e : ((i + 1 : Nat) : Int) = (i : Int) + 1 := by omega
    rw [e, Int.add_mul]
    omega
theorem wk_range {n : Nat} : Wk X M H ⟨rangeD 0 1 n, none⟩ (Itr 0 n) where
  go := fun i M2 H2 st x S g hi => by
    have q : i < (rangeD 0 1 n).length := hi
    rw [rangeD_length] at q
    exact q
  stop := fun M2 H2 st x S g => by
    show n ≤ (rangeD 0 1 n).length
    rw [rangeD_length]
    exact Nat.le_refl _
  yld := fun i d M2 H2 st v H3 x S g hd y => by
    obtain ⟨rfl, rfl⟩ := y
    rw [rangeD_get n i 0 1 d hd, Int.mul_one]
    exact ⟨Ext.refl _ _, S, .int _⟩
theorem wk_rangeC {n : Nat} {lo c : Int} : Wk X M H ⟨rangeD lo c n, none⟩ (Itc lo c n) where
  go := fun i M2 H2 st x S g hi => by
    have q : i < (rangeD lo c n).length := hi
    rw [rangeD_length] at q
    exact q
  stop := fun M2 H2 st x S g => by
    show n ≤ (rangeD lo c n).length
    rw [rangeD_length]
    exact Nat.le_refl _
  yld := fun i d M2 H2 st v H3 x S g hd y => by
    obtain ⟨rfl, rfl⟩ := y
    rw [rangeD_get n i lo c d hd]
    exact ⟨Ext.refl _ _, S, .int _⟩

/-! ### the rules -/
variable {tg : Expr}
/-- a sequence, whichever it is -/
def iSeq (X : Cx) (te : TE) : TI := fun σ H R => te σ H fun x H1 => ∃ M1 st its, SR X M1 H1 st ∧ guardOk its.src st = true ∧ SrcV X M1 H1 x its ∧ ∀ J, Wk X M1 H1 its J → R J H1
theorem pi_seq {e : Expr} {te : TE} (he : PE X e te) : PI X tg e (iSeq X te) := by
  refine ⟨fun pins s σ H R I h => ?_⟩
  refine thn (he.run pins s σ H _ I h) fun v s1 ⟨x, H1, I1, r1, M1, st, its, S, g, src, q⟩ => ?_
  cases src with
  | @lst a _ hx =>
    cases r1
    obtain ⟨xs, h1, h2⟩ := hx M1 H1 st (Ext.refl _ _) S g
    obtain ⟨us, rv, p, hz⟩ := I1.list (.inl h1)
    exact wpAny_pyIter_list p.isList (pi_one (tk := s1.toks) I1 _ (turn_list a _) ⟨_, Heap.get?_push_size _ rfl, rfl, rfl⟩ (q _ (wk_list hx)))
  | @tup a xs _ h1 h2 =>
    cases r1
    obtain ⟨us, rv, p, hz⟩ := I1.tuple (.inl (.inl (Fz_at h1).1))
    exact wpAny_pyIter_tuple (show s1.heap.IsTuple a us.toArray from p) (pi_one (tk := s1.toks) I1 _ (turn_tuple a _) ⟨_, Heap.get?_push_size _ rfl, rfl, rfl⟩ (q _ (wk_tup h1 h2)))
  | @str z _ e =>
    obtain ⟨t, rfl⟩ := r1
    cases ha : z.cps.all (· < 128)
    · exact wpAny_pyIter_wide ha (pi_one (tk := s1.toks) I1 _ (turn_str _ z t "str_iterator" (.inr rfl)) ⟨_, Heap.get?_push_size _ rfl, rfl, rfl⟩ (q _ (wk_str e)))
    · exact wpAny_pyIter_ascii ha (pi_one (tk := s1.toks) I1 _ (turn_str _ z t "str_ascii_iterator" (.inl rfl)) ⟨_, Heap.get?_push_size _ rfl, rfl, rfl⟩ (q _ (wk_str e)))
def notStr : V → Bool
  | .ref _ => true
  | _ => false
def iEnumV (X : Cx) (ta : TA) : TI := fun σ H R => ta σ H fun vs H1 => ∃ x M1 st its, vs = [x] ∧ notStr x = true ∧ SR X M1 H1 st ∧ guardOk its.src st = true ∧ SrcV X M1 H1 x its ∧ ∀ J, Wk X M1 H1 ⟨enumD 0 its.ds, its.src⟩ J → R J H1
theorem enum_ee (its : Items) : ∀ (i : Nat) (d : PyData), (enumD 0 its.ds)[i]? = some d → ∃ u, its.ds[i]? = some u ∧ d = .tuple [.int (i : Nat), u] := fun i d h => by
  obtain ⟨u, h1, h2⟩ := enumD_get its.ds 0 i d h
  rw [Nat.zero_add] at h2
  exact ⟨u, h1, h2⟩
theorem pi_enumV {e : Expr} {ta : TA} {p pos tpos : Pos} {elts : List Expr} {kk : Nat} (hg : Gl X "enumerate") (hm : X.mg "enumerate" = none) (ha : PA X [e] ta) (hs : starEach [e] X.env = [(false, eval e X.env)]) :
    PI X (.Tuple elts kk tpos) (.Call (.Name "enumerate" p) [e] [] pos) (iEnumV X ta) := by
  refine ⟨fun pins s σ H R I h => ?_⟩
  refine Call_ (ld_blt I hg hm boot_enumerate (PyProof.Rows.callWith_type1 (thn (ha.run pos pins s σ H _ I h) fun us s1 ⟨vs, H1, I1, r1, q1⟩ => ?_) hs rfl))
  obtain ⟨x, M1, st, its, ex, ns, S, g, src, q⟩ := q1
  subst ex
  obtain ⟨u, rfl, rx⟩ := vals1 r1
  have fp : ∀ b, b ∈ [s1.heap.objs.size + 1, s1.heap.objs.size] → FpOk X pins H1 b := fun b hb => by
    have hle : s1.heap.objs.size ≤ b := by
      rcases (by simpa using hb : b = s1.heap.objs.size + 1 ∨ b = s1.heap.objs.size) with z | z <;> omega
    exact I1.fpOk hle (I1.hok.fresh hle)
  cases src with
  | @lst a _ hx =>
    cases rx
    obtain ⟨xs, h1, h2⟩ := hx M1 H1 st (Ext.refl _ _) S g
    obtain ⟨us, rv, p', hz⟩ := I1.list (.inl h1)
    refine call_enumerate_list p'.isList fun h' he hit hsz hk => wpAny_pyIter_enum he ?_
    have I2 : Inv X pins σ H1 { s1 with heap := h' } := I1.kept (t' := s1.toks) hk
    exact ⟨s1.heap.objs.size + 1, [s1.heap.objs.size + 1, s1.heap.objs.size], _, _, H1, rfl, I2, turn_enum a (s1.heap.objs.size + 1) s1.heap.objs.size, ⟨⟨.none, he⟩, hit, Nat.succ_ne_self _⟩, fp, q _ (wk_enumL hx (enumD_length _ _) (enum_ee its))⟩
  | @tup a xs _ h1 h2 =>
    cases rx
    obtain ⟨us, rv, p', hz⟩ := I1.tuple (.inl (.inl (Fz_at h1).1))
    refine call_enumT (show s1.heap.IsTuple a us.toArray from p') fun h' he hit hk => wpAny_pyIter_enum he ?_
    have I2 : Inv X pins σ H1 { s1 with heap := h' } := I1.kept (t' := s1.toks) hk
    exact ⟨s1.heap.objs.size + 1, [s1.heap.objs.size + 1, s1.heap.objs.size], _, _, H1, rfl, I2, turn_enumT a (s1.heap.objs.size + 1) s1.heap.objs.size, ⟨⟨.none, he⟩, hit, Nat.succ_ne_self _⟩, fp, q _ (wk_enumT h1 h2 (enumD_length _ _) (enum_ee its))⟩
  | str e => cases ns
end
end PD

set_option Elab.async false
set_option linter.all false
set_option maxRecDepth 100000
set_option maxHeartbeats 1000000
/-! Slices, methods, isinstance, stores into lists, dicts. -/
namespace PD
open PySem PySem.Spec PyProof.Rows L2
section
variable {X : Cx}
/-! ### slices -/
theorem Drs.cut {F : Hp} {xs : List V} {ds : List PyData} (h : Drs F xs ds) (lo hi : Option Int) : Drs F (cutV xs lo hi) (cutD ds lo hi) := by
  unfold cutV cutD
  rw [h.length]
  exact Drs.take _ (Drs.drop _ h)
def rCut (X : Cx) : V → Option Int → Option Int → Hp → VK → Prop := fun x lo hi H Q => ∃ M st v d E, SR X M H st ∧ EVr (Fz M H) M x v ∧ rd st v = some d ∧ OkX X M H (ofO st (slcD d lo hi)) Q E
theorem cutD_whole {ds : List PyData} {lo hi : Option Int} (h : HT.sIx ds.length 0 lo = 0 ∧ HT.sIx ds.length ds.length hi = ds.length) : cutD ds lo hi = ds := by
  unfold cutD
  rw [h.1, h.2, List.drop_zero, Nat.sub_zero, List.take_length]
theorem slr_cut : SlR X (rCut X) := by
  intro pins s σ H x v vl vu lo hi sl Q I rx hs pl pu h
  obtain ⟨M, st, vx, d, E, S, ex, hd, ok⟩ := h
  have t := rd_top S ex hd
  cases d with
  | list ds =>
    obtain ⟨a, xs, rfl, h1, h2⟩ := t.list
    refine sl_list pins s σ H _ v vl vu lo hi sl Q I rx hs pl pu ⟨a, xs, rfl, .inl h1, fun p hp => ?_⟩
    exact ok.newL S (h2.cut lo hi) p hp
  | tuple ds =>
    obtain ⟨a, xs, rfl, h1, h2⟩ := t.tuple
    refine sl_tupA pins s σ H _ v vl vu lo hi sl Q I rx hs pl pu ⟨a, xs, rfl, SqT.fz h1, fun w => ?_, fun _ p hp => ?_⟩
    · rw [h2.length] at w
      have e : slcD (.tuple ds) lo hi = some (.tuple ds) := by
        show some (PyData.tuple (cutD ds lo hi)) = _
        rw [cutD_whole w]
      rw [e] at ok
      exact ok.now S (.tup h1 h2)
    · exact ok.newT S (h2.cut lo hi) p hp
  | str z =>
    have e := t.str
    subst e
    unfold slcD at ok
    dsimp only at ok
    by_cases hz : z.length ≤ LIM
    · rw [if_pos hz] at ok
      exact sl_str pins s σ H _ v vl vu lo hi sl Q I rx hs pl pu ⟨z, rfl, Nat.le_trans hz lim_line, ok.now S (.str _)⟩
    · rw [if_neg hz] at ok
      exact ok.elim
  | _ => exact (show False from ok).elim
/-! ### methods -/
def rMth (X : Cx) (m : Mth) : V → List V → Hp → VK → Prop := fun x xs H Q => ∃ M st o vs E, SR X M H st ∧ EVr (Fz M H) M x o ∧ Paired (EVr (Fz M H) M) xs vs ∧ OkX X M H (mthD m o vs st) Q E
theorem OkE.setL {P : Program} {w : World} {M : List Addr} {H : Hp} {st : Store} {Q : VK} {E : Nat → Hp → Prop} {v : EV} {x : V} {n : Nat} {a : Addr} {o : HO} {ds : List PyData} {xs : List V} (h : OkE P w M H (.ok v (st.set n (.lst ds))) Q E) (S : SRel P w M H st) (m : M[n]? = some a)
    (ha : H a = some o) (hd : Drs (Fz M H) xs ds) (r : EVr (Fz M H) M x v) : Q x (upd H a (.lst xs)) := by
  have ma : a ∈ M := List.mem_of_getElem? m
  have e : Fz M (upd H a (.lst xs)) = Fz M H := Fz_in ma
  refine h M _ x (Ext.put ma ha) (S.put m ⟨xs, upd_same, hd⟩) ?_
  show EVr (Fz M (upd H a (.lst xs))) M x v
  rw [e]
  exact r
theorem cell_at {M : List Addr} {H : Hp} {st : Store} {n : Nat} {ds : List PyData} {x : V} (S : SR X M H st) (e : st[n]? = some (.lst ds)) (h : EVr (Fz M H) M x (.loc n)) : ∃ a xs, x = .ref a ∧ M[n]? = some a ∧ H a = some (.lst xs) ∧ Drs (Fz M H) xs ds := by
  obtain ⟨a, m, rfl⟩ := h
  obtain ⟨xs, h1, h2⟩ := S.cell n _ a e m
  exact ⟨a, xs, rfl, m, h1, h2⟩
theorem mtr_append : MtR X "list.append" (rMth X .append) := by
  intro pins s σ H x xs v us Q I rx rxs h
  obtain ⟨M, st, o, vs, E, S, ex, rs, ok⟩ := h
  replace ok : OkX X M H (appD st o vs) Q E := ok
  unfold appD at ok
  split at ok
  · split at ok
    · split at ok
      · rename_i n d ds q hl
        obtain ⟨a, ys, rfl, m, h1, h2⟩ := cell_at S q ex
        cases rs with
        | cons r1 r2 =>
          cases r2
          refine mt_append pins s σ H _ _ v us Q I rx rxs ⟨a, ys, _, rfl, rfl, h1, ?_, ?_⟩
          · rw [h2.length]
            exact Nat.lt_of_lt_of_le hl lim_line
          · exact ok.setL S m h1 (Drs.append h2 (.cons r1 .nil)) .non
      · exact ok.elim
    · exact ok.elim
  · exact ok.elim
theorem mtr_pop : MtR X "list.pop" (rMth X .pop) := by
  intro pins s σ H x xs v us Q I rx rxs h
  obtain ⟨M, st, o, vs, E, S, ex, rs, ok⟩ := h
  replace ok : OkX X M H (popD st o vs) Q E := ok
  unfold popD at ok
  split at ok
  · split at ok
    · split at ok
      · rename_i n _ ds q _ d hl
        obtain ⟨a, ys, rfl, m, h1, h2⟩ := cell_at S q ex
        cases rs
        have hd : ds[ds.length - 1]? = some d := by rw [← List.getLast?_eq_getElem?]; exact hl
        obtain ⟨y, hy, ry⟩ := h2.get hd
        rw [← h2.length] at hy
        refine mt_pop pins s σ H _ _ v us Q I rx rxs ⟨a, ys, y, rfl, rfl, h1, hy, ?_⟩
        refine ok.setL S m h1 ?_ ry
        rw [List.dropLast_eq_take, List.dropLast_eq_take, h2.length]
        exact Drs.take _ h2
      · exact ok.elim
    · exact ok.elim
  · exact ok.elim
/-- l.extend(b), b standing anywhere -/
def rExtR : V → List V → Hp → VK → Prop := fun x vs H Q => ∃ l b xs zs, x = .ref l ∧ vs = [.ref b] ∧ H l = some (.lst xs) ∧ Rd H b (.lst zs) ∧ xs.length + zs.length ≤ sizeLine ∧ Q .non (upd H l (.lst (xs ++ zs)))
theorem mt_extR : MtR X "list.extend" rExtR := by
  intro pins s σ H x vs v us Q I rx rv h
  obtain ⟨l, b, xs, zs, rfl, rfl, hl, hb, hz, q⟩ := h
  cases rx
  obtain ⟨u, rfl, ru⟩ := vals1 rv
  cases ru
  obtain ⟨_, its, n, r, len1, e⟩ := I.lstM hl
  obtain ⟨_, its2, n2, r2, len2, e2⟩ := Inv.lstR I hb
  have fits : its.toArray.size + its2.toArray.size ≤ sizeLine := by
    rw [List.size_toArray, List.size_toArray]
    omega
  have short : ¬ (!its.toArray.isEmpty && Builtin.List.listTooLong (its.toArray.size + its2.toArray.size)) = true := by
    rw [notLongL fits, Bool.and_false]
    decide
  have goes := AutoSeq1.list_extend_list_list_0 l its.toArray n b its2.toArray n2 short (by rw [List.size_toArray]; omega) (by omega)
  refine call_meets F.slot_list_extend ⟨_, e, rfl⟩ F.entry_list_extend (F.args_list_extend_2 _ _) goes ⟨e, e2, ?_⟩
  exact ⟨.non, _, I.lset (its' := its ++ its2) hl e (by simp) (r.append r2) (by rw [List.length_append]; omega), rfl, q⟩
theorem mtr_extend : MtR X "list.extend" (rMth X .extend) := by
  intro pins s σ H x xs v us Q I rx rxs h
  obtain ⟨M, st, o, vs, E, S, ex, rs, ok⟩ := h
  replace ok : OkX X M H (extD st o vs) Q E := ok
  unfold extD at ok
  split at ok
  · split at ok
    · split at ok
      · rename_i n es ds q hl
        obtain ⟨a, ys, rfl, m, h1, h2⟩ := cell_at S q ex
        cases rs with
        | cons r1 r2 =>
          cases r2
          cases r1 with
          | lst g1 g2 =>
            refine mt_extR pins s σ H _ _ v us Q I rx rxs ⟨a, _, ys, _, rfl, rfl, h1, Rd.sub Fz_sub g1, ?_, ?_⟩
            · rw [h2.length, g2.length]
              exact Nat.le_trans hl lim_line
            · exact ok.setL S m h1 (Drs.append h2 g2) .non
      · exact ok.elim
    · exact ok.elim
  · exact ok.elim
theorem mtr_join : MtR X "str.join" (rMth X .join) := by
  intro pins s σ H x xs v us Q I rx rxs h
  obtain ⟨M, st, o, vs, E, S, ex, rs, ok⟩ := h
  replace ok : OkX X M H (joinD st o vs) Q E := ok
  unfold joinD at ok
  split at ok
  · rename_i a w
    split at ok
    · rename_i d hd
      split at ok
      · rename_i ys hs
        split at ok
        · rename_i hl
          cases ex
          cases rs with
          | cons r1 r2 =>
            cases r2
            have t := rd_top S r1 hd
            unfold strsOf at hs
            split at hs
            · rename_i ds es
              have ed := strOf_map hs
              subst ed
              have fits : (ys.map (·.length)).sum + ys.length * a.length ≤ 16777216 := Nat.le_trans hl (by decide)
              cases d with
              | list zs =>
                cases es
                obtain ⟨p, vs, rfl, h1, h2⟩ := t.list
                rw [Drs.strs h2] at h1
                exact mt_join pins s σ H _ _ v us Q I rx rxs ⟨a, p, ys, rfl, rfl, .inl (.inl h1), fits, ok.now S (.str _)⟩
              | tuple zs =>
                cases es
                obtain ⟨p, vs, rfl, h1, h2⟩ := t.tuple
                rw [Drs.strs h2] at h1
                exact mt_join pins s σ H _ _ v us Q I rx rxs ⟨a, p, ys, rfl, rfl, .inr (SqT.fz h1), fits, ok.now S (.str _)⟩
              | _ => cases es
            · cases hs
        · exact ok.elim
      · exact ok.elim
    · exact ok.elim
  · exact ok.elim
theorem mtr_split : MtR X "str.split" (rMth X .split) := by
  intro pins s σ H x xs v us Q I rx rxs h
  obtain ⟨M, st, o, vs, E, S, ex, rs, ok⟩ := h
  replace ok : OkX X M H (splitD st o vs) Q E := ok
  unfold splitD at ok
  split at ok
  · rename_i a b
    split at ok
    · rename_i hl
      rw [Bool.and_eq_true] at hl
      cases ex
      cases rs with
      | cons r1 r2 =>
        cases r2
        cases r1
        have h1 : (b.length == 0) = false := by simpa using hl.1
        have h2 : a.length ≤ LIM := of_decide_eq_true hl.2
        have h3 : a.length + 2 ≤ sizeLine := by
          rw [sizeLine_eq]
          have : LIM = 1000000 := rfl
          omega
        refine mt_split pins s σ H _ _ v us Q I rx rxs ⟨a, b, rfl, rfl, h1, h3, ?_⟩
        exact fun p hp => ok.newL S (Drs.of_strs _) p hp
    · exact ok.elim
  · exact ok.elim
/-! ### isinstance -/
def tyN : Ty → String
  | .int => "int"
  | .bool => "bool"
  | .tuple => "tuple"
  | .str => "str"
theorem kitB_non (t : Ty) : kitB "NoneType" (tyN t) = some false := by cases t <;> decide +kernel
theorem kitB_bool (t : Ty) (b : Bool) : kitB "bool" (tyN t) = some (isTy (.bool b) t) := by
  have e : isTy (.bool b) t = isTy (.bool true) t := by cases t <;> rfl
  rw [e]
  cases t <;> decide +kernel
theorem kitB_int (t : Ty) (i : Int) : kitB "int" (tyN t) = some (isTy (.int i) t) := by
  have e : isTy (.int i) t = isTy (.int 0) t := by cases t <;> rfl
  rw [e]
  cases t <;> decide +kernel
theorem kitB_str (t : Ty) (i : Str) : kitB "str" (tyN t) = some (isTy (.str i) t) := by
  have e : isTy (.str i) t = isTy (.str ⟨#[]⟩) t := by cases t <;> rfl
  rw [e]
  cases t <;> decide +kernel
theorem kitB_list (t : Ty) : kitB "list" (tyN t) = some false := by cases t <;> decide +kernel
theorem kitB_tuple (t : Ty) (ds : List PyData) : kitB "tuple" (tyN t) = some (isTy (.tuple ds) t) := by
  have e : isTy (.tuple ds) t = isTy (.tuple []) t := by cases t <;> rfl
  rw [e]
  cases t <;> decide +kernel
def rIsT (X : Cx) (t : Ty) : List V → Hp → VK → Prop := fun xs H Q => ∃ x M st v E, xs = [x, .ty (tyN t)] ∧ SR X M H st ∧ EVr (Fz M H) M x v ∧ OkX X M H (isTV t v st) Q E
theorem cr_isT (t : Ty) : CallR X (.builtin "isinstance") (rIsT X t) := by
  intro pins s σ H xs us Q I r h
  obtain ⟨x, M, st, v, E, rfl, S, ex, ok⟩ := h
  have go : ∀ (T : Value) (b : Bool), TyX X.K H x T → PySem.W.kitOne X.K T (.type (tyN t)) = some b → Q (.bl b) H → wpAny (model X.prog X.w) X.A (call (.builtin "isinstance") us) (EP X pins σ Q) X.xe s := fun T b ty e q =>
    call_isi pins s σ H _ us Q I r ⟨x, .ty (tyN t), T, .type (tyN t), b, rfl, .ty _, ty, e, q⟩
  have lst : ∀ {a : Addr} {ys : List V}, Rd H a (.lst ys) → TyX X.K H (.ref a) (.type "list") := fun {a ys} h => by
    rcases h with h | ⟨u, h⟩
    · exact .base (.lst h)
    · exact .base (.frz h)
  cases v with
  | dat d =>
    have q : ∀ b, isTy d t = b → Q (.bl b) H := fun b e => by
      subst e
      exact ok.now S (.bl _)
    cases d with
    | none =>
      cases ex
      exact go _ _ (.base .non) (kit_ty (kitB_non t)) (q _ (by cases t <;> rfl))
    | bool b =>
      cases ex
      exact go _ _ (.base (.bl b)) (kit_ty (kitB_bool t b)) (q _ rfl)
    | int i =>
      cases ex
      exact go _ _ (.base (.int i)) (kit_ty (kitB_int t i)) (q _ rfl)
    | str i =>
      cases ex
      exact go _ _ (.base (.str i)) (kit_ty (kitB_str t i)) (q _ rfl)
    | list ds =>
      cases ex with
      | lst h1 h2 => exact go _ _ (lst (Rd.sub Fz_sub h1)) (kit_ty (kitB_list t)) (q _ (by cases t <;> rfl))
    | tuple ds =>
      cases ex with
      | tup h1 h2 => exact go _ _ (.base (.tup (Fz_at h1).1)) (kit_ty (kitB_tuple t ds)) (q _ rfl)
    | dict _ => exact nomatch ex
  | loc n =>
    obtain ⟨a, m, rfl⟩ := ex
    unfold isTV at ok
    dsimp only at ok
    split at ok
    · rename_i ds q
      obtain ⟨ys, h1, h2⟩ := S.cell n _ a q m
      exact go _ _ (.base (.lst h1)) (kit_ty (kitB_list t)) (ok.now S (.bl _))
    · exact ok.elim
/-! ### stores into a list -/
def rSetS (X : Cx) : TSet := fun o i v H Q => ∃ M st a b c st', SR X M H st ∧ EVr (Fz M H) M v a ∧ EVr (Fz M H) M o b ∧ EVr (Fz M H) M i c ∧ setIxV a b c st = some st' ∧ ∀ M' H', Ext M H M' H' → SR X M' H' st' → Q H'
theorem set_store (hu : X.A.units + 65 < cLine) : PSet X (rSetS X) := by
  intro pins s σ H o i v ov iv u Q I ro ri rv h
  obtain ⟨M, st, a, b, c, st', S, ea, eb, ec, e, q⟩ := h
  unfold setIxV at e
  split at e
  · rename_i d n k
    split at e
    · rename_i ds g
      split at e
      · rename_i j hj
        cases e
        cases ec
        obtain ⟨p, ys, rfl, m, h1, h2⟩ := cell_at S g eb
        refine set_list pins s σ H _ _ v ov iv u Q I ro ri rv ⟨p, ys, k, j, rfl, rfl, h1, by rw [h2.length]; exact hj, ?_⟩
        exact q M _ (Ext.put (List.mem_of_getElem? m) h1) (S.put m ⟨_, upd_same, Drs.set ea j h2⟩)
      · cases e
    · cases e
  · rename_i d n key _
    split at e
    · rename_i kvs g
      split at e
      · rename_i hl
        cases e
        rw [Bool.and_eq_true] at hl
        obtain ⟨p, m, rfl⟩ := eb
        exact set_dictT hu pins s σ H _ _ v ov iv u Q I ro ri rv ⟨M, st, n, kvs, key, p, d, S, g, m, rfl, ec, hl.1, ea, of_decide_eq_true hl.2, q M⟩
      · cases e
    · cases e
  · cases e
/-! ### dicts -/
theorem OkE.cellD {P : Program} {w : World} {M : List Addr} {H : Hp} {st : Store} {Q : VK} {E : Nat → Hp → Prop} (h : OkE P w M H (.ok (.loc st.length) (st ++ [.dict []])) Q E) (S : SRel P w M H st) (p : Addr) (hp : H p = none) : Q (.ref p) (upd H p (DictO P w p [])) := by
  refine h _ _ _ (Ext.cell hp) (S.push hp ⟨[], upd_same, .nil⟩) ⟨p, ?_, rfl⟩
  rw [← S.len, List.getElem?_append_right (Nat.le_refl _), Nat.sub_self]
  rfl
def tNewD (X : Cx) : TE := fun _ H Q => ∀ p, H p = none → Q (.ref p) (upd H p (DictO X.prog X.w p []))
theorem pe_newD {pos : Pos} : PE X (.Dict [] [] pos) (tNewD X) := ⟨fun pins s σ H Q I h => wpAny_Dict_empty (by
  have sm : (s.heap.objs.size == sysModules) = false := beq_eq_false_iff_ne.mpr (Ne.symm (Nat.ne_of_lt I.big))
  have new : ObjOk X.prog X.w (upd H s.heap.objs.size (DictO X.prog X.w s.heap.objs.size [])) (s.heap.push { cls := .type "dict", data := .dict #[] }) s.heap.objs.size (DictO X.prog X.w s.heap.objs.size []) :=
    dict_new (Heap.DictOfH.new s.heap) sm (Nat.zero_le _)
  exact ⟨.ref s.heap.objs.size, _, I.laid (t' := s.toks) (fun _ _ q => Heap.get?_push_of_some _ q) (Nat.le_refl _) new, rfl, h _ (I.hok.fresh (Nat.le_refl _))⟩)⟩
def rKeys (X : Cx) : List V → Hp → VK → Prop := fun xs H Q => ∃ x M st v E, xs = [x] ∧ SR X M H st ∧ EVr (Fz M H) M x v ∧ OkX X M H (keysV v st) Q E
theorem keys_rel {F : Hp} : ∀ {kvs : List (PyData × PyData)} {xs : List Ent}, Paired (EntR F) kvs xs → Drs F (xs.map fun x => V.ref x.2.1) (kvs.map (·.1))
  | _, _, .nil => .nil
  | _, _, .cons h t => .cons h.2.2.1 (keys_rel t)
theorem refs_vals : ∀ xs : List Ent, Vals (xs.map fun x => V.ref x.2.1) (xs.map fun x => Value.ref x.2.1)
  | [] => .nil
  | _ :: r => .cons rfl (refs_vals r)
theorem cr_keys (hc : X.calm = true) : CallR X (.type "list") (rKeys X) := by
  intro pins s σ H xs us Q I r h
  obtain ⟨x, M, st, v, E, rfl, S, ex, ok⟩ := h
  unfold keysV at ok
  split at ok
  · rename_i n
    split at ok
    · rename_i kvs q
      obtain ⟨a, m, rfl⟩ := ex
      obtain ⟨ys, D⟩ := at_dict S q m
      obtain ⟨u, rfl, ru⟩ := vals1 r
      cases ru
      obtain ⟨dd, sm, ln⟩ := dict_of I.hok D.obj D.ent Fz_sub
      obtain ⟨o, es, ep, g, hx, dt, el, _, _⟩ := dd
      have les : es.size = ys.length := by rw [← Array.length_toList, el, List.length_map]
      refine PySem.W.kdl_call (kdl_raw sm hx dt) (I.ok.hd hc) g (by omega) fun h' tk acc c kp e it => ?_
      have ea : acc.toList = ys.map fun x => Value.ref x.2.1 := by
        apply List.ext_getElem?
        intro j
        rw [List.getElem?_map]
        by_cases hj : j < ys.length
        · have hj1 : j < acc.toList.length := by rw [Array.length_toList, it.1]; omega
          obtain ⟨en, h1, h2⟩ := it.2 j _ (by rw [← Array.getElem?_toList]; exact List.getElem?_eq_getElem hj1)
          have h3 : es.toList[j]? = some en := by rw [Array.getElem?_toList]; exact h1
          rw [el, List.getElem?_map, List.getElem?_eq_getElem hj] at h3
          have h4 : entryOfKey (nestedKind X.prog X.w) ys[j] = en := Option.some.inj h3
          rw [List.getElem?_eq_getElem hj1, List.getElem?_eq_getElem hj, h2, ← h4]
          rfl
        · rw [List.getElem?_eq_none (by rw [Array.length_toList, it.1]; omega), List.getElem?_eq_none (by omega)]
          rfl
      have rv : Vals (ys.map fun x => V.ref x.2.1) acc.toList := by rw [ea]; exact refs_vals ys
      have new : ObjOk X.prog X.w (upd H s.heap.objs.size (.lst (ys.map fun x => V.ref x.2.1))) h' s.heap.objs.size (.lst (ys.map fun x => V.ref x.2.1)) :=
        ⟨by rw [List.length_map]; exact ln, acc.toList, c, rv, by rw [Array.toArray_toList]; exact e⟩
      refine ⟨.ref s.heap.objs.size, _, I.laid (t' := tk) kp (Nat.le_refl _) new, rfl, ?_⟩
      exact ok.newL S (keys_rel D.ent) _ (I.hok.fresh (Nat.le_refl _))
    · exact ok.elim
  · exact ok.elim
/-! ### len(set(a list of whole numbers)) -/
def tSetLen (X : Cx) (te : TE) : TE := fun σ H Q => te σ H fun x H1 => ∃ M st v d E, SR X M H1 st ∧ EVr (Fz M H1) M x v ∧ rd st v = some d ∧ OkX X M H1 (ofO st (lenSetD d)) Q E
theorem pe_setLen {a : Expr} {ta : TE} {p p2 q pos : Pos} (hg : Gl X "len") (hm : X.mg "len" = none) (hg2 : Gl X "set") (hm2 : X.mg "set" = none) (ha : PE X a ta) (hc : X.calm = true)
    (na : starEach [a] X.env = (false, eval a X.env) :: starEach [] X.env) : PE X (.Call (.Name "len" p) [.Call (.Name "set" p2) [a] [] q] [] pos) (tSetLen X ta) := by
  refine ⟨fun pins s σ H Q I h => ?_⟩
  have outer : starEach [.Call (.Name "set" p2) [a] [] q] X.env = (false, eval (.Call (.Name "set" p2) [a] [] q) X.env) :: starEach [] X.env := rfl
  refine Call_ (ld_blt I hg hm boot_len (PyProof.Rows.callWith_builtin1 (PyProof.Rows.args_cons ?_ outer) outer rfl))
  refine Call_ (ld_blt I hg2 hm2 boot_set (PyProof.Rows.callWith_type1 (PyProof.Rows.args_cons (thn (ha.run pins s σ H _ I h) fun v s1 ⟨x, H1, I1, r1, q1⟩ => PyProof.Rows.args_nil ?_) na) na rfl))
  obtain ⟨M, st, ev, d, E, S, ex, hd, ok⟩ := q1
  have t := rd_top S ex hd
  cases d with
  | list ds =>
    obtain ⟨l, xs, rfl, h1, h2⟩ := t.list
    unfold lenSetD at ok
    dsimp only at ok
    split at ok
    · rename_i ns hn
      split at ok
      · rename_i hlt
        have e := intsOf_map hn
        subst e
        rw [Drs.ints h2] at h1
        cases r1
        obtain ⟨its, r, pl, hz⟩ := I1.list (.inl h1)
        have hlen : its.toArray.size = ns.length := by rw [List.size_toArray, ← r.length, List.length_map]
        have lt : ns.length < 64 := of_decide_eq_true hlt
        refine call_set_list (I1.ok.hd hc) pl.isList (by simpa using RZ.intsAre_vals r) (by rw [hlen]; unfold scanBound; omega) fun h' tk hS hk => PyProof.Rows.args_nil ?_
        rw [hlen] at hS
        obtain ⟨o, es, ep, tt, ho, hex, hdt, _, _, _, hf, hsz⟩ := hS
        have I2 : Inv X pins σ H1 { s1 with heap := h', toks := tk } := I1.kept fun b o e => hk b o (Heap.lt_size e) e
        have few : (PyProof.Rows.firstMet (fun i => ns.getD i 0) ns.length).length ≤ ns.length := PyProof.Rows.firstMet_length_le _ _
        exact call_len_set ho hex hdt hf (by rw [hsz]; omega) ⟨.int ((PyProof.Rows.firstMet (fun i => ns.getD i 0) ns.length).length : Nat), H1, I2.tok _, ⟨_, by rw [hsz]⟩, ok.now S (.int _)⟩
      · exact ok.elim
    · exact ok.elim
  | _ => exact (show False from ok).elim
end
end PD

set_option Elab.async false
set_option linter.all false
set_option maxRecDepth 100000
set_option maxHeartbeats 1000000
/-! The checker: is that expression what this tree says? And the readings by the evaluator. -/
namespace PD
open PySem PySem.Spec PyProof.Rows L2
/-- what a checker is told: the slots' names, the defs' names, the errors' names -/
structure Cc where
  N : List Str
  fns : List Str
  exs : List Str
def isLoc (sc : Scope) (x : Str) : Bool := match sc.names.lookup x with
  | some .local => true
  | some .cell => true
  | some .free => true
  | _ => false
def isOwn (sc : Scope) (x : Str) : Bool := match sc.names.lookup x with
  | some .local => true
  | some .cell => true
  | _ => false
def isGl (sc : Scope) (x : Str) : Bool := match sc.names.lookup x with
  | some .globalImplicit => true
  | _ => false
def unst : Expr → Bool
  | .Starred .. => false
  | _ => true
def noSlc : Expr → Bool
  | .Slice .. => false
  | _ => true
def noBare : Expr → Bool
  | .Call .. => false
  | _ => true
def slot (c : Cc) (i : Nat) (x : Str) : Bool := decide (c.N[i]? = some x)
def constIs : Const → PyData → Bool
  | .int i, .int j => decide (i = j)
  | .bool a, .bool b => a == b
  | .none, .none => true
  | .str x, .str y => decide (x = y)
  | _, _ => false
def bltN : Blt → Str
  | .len => "len"
  | .tuple => "tuple"
  | .sorted => "sorted"
  | .list => "list"
  | .sum => "sum"
  | .all => "all"
  | .str => "str"
  | .int => "int"
  | .min2 => "min"
  | .maxL => "max"
  | .minD => "min"
  | .lenSet => "len"
def mthN : Mth → Str
  | .append => "append"
  | .extend => "extend"
  | .pop => "pop"
  | .join => "join"
  | .split => "split"
  | .get2 => "get"
def tyS : Ty → Str
  | .int => "int"
  | .bool => "bool"
  | .tuple => "tuple"
  | .str => "str"
def bltNames : List Str := ["len", "tuple", "sorted", "list", "sum", "all", "str", "int", "min", "max", "set", "range", "enumerate", "zip", "isinstance", "bool", "ValueError"]
def lenA : IA → Nat
  | .nil => 0
  | .cons _ es => lenA es + 1
def chkTg (c : Cc) (sc : Scope) : Tg → Expr → Bool
  | .one i, e => match e with
    | .Name x _ => slot c i x && isOwn sc x
    | _ => false
  | .two i j, e => match e with
    | .Tuple [.Name x _, .Name y _] _ _ => slot c i x && isOwn sc x && slot c j y && isOwn sc y
    | _ => false
def tgIn (own : List Nat) : Tg → Bool
  | .one i => own.contains i
  | .two i j => own.contains i && own.contains j
def ownOf (c : Cc) (own : List Nat) : List (Str × Nat) := own.map fun i => (c.N.getD i "", i)
def pairT : Expr → Bool
  | .Tuple .. => true
  | _ => false
def isIf : IE → Bool
  | .ite .. => true
  | _ => false
def isB : IE → Bool
  | .and .. => true
  | .or .. => true
  | .one .. => true
  | _ => false
def isIfO : IO → Bool
  | .some a => isIf a
  | .none => false
mutual
def chkE (c : Cc) : Scope → IE → Expr → Bool
  | sc, .var i, e => match e with
    | .Name x _ => slot c i x && isLoc sc x && !(x == "__debug__") && !(x == "__classdict__")
    | _ => false
  | _, .lit d, e => match e with
    | .Constant k _ _ => constIs k d
    | _ => false
  | sc, .neg a, e => match e with
    | .UnaryOp .USub a' _ => chkE c sc a a'
    | _ => false
  | sc, .bin op a b, e => match e with
    | .BinOp a' op' b' _ => decide (op = op') && (chkE c sc a a' && chkE c sc b b')
    | _ => false
  | sc, .cmp op a b, e => match e with
    | .Compare a' [op'] [b'] _ => (decide (op = op') && !behindInMarks op' b') && (chkE c sc a a' && chkE c sc b b')
    | _ => false
  | sc, .chain op1 op2 a b d, e => match e with
    | .Compare a' [o1, o2] [b', d'] _ => ((decide (op1 = o1) && decide (op2 = o2)) && !behindInMarks o2 d') && (chkE c sc a a' && (chkE c sc b b' && chkE c sc d d'))
    | _ => false
  | sc, .and a b, e => match e with
    | .BoolOp .And (a' :: b' :: r) p => (!isIf a && isB b) && (chkE c sc a a' && chkE c sc b (.BoolOp .And (b' :: r) p))
    | _ => false
  | sc, .or a b, e => match e with
    | .BoolOp .Or (a' :: b' :: r) p => (!isIf a && isB b) && (chkE c sc a a' && chkE c sc b (.BoolOp .Or (b' :: r) p))
    | _ => false
  | sc, .one a, e => match e with
    | .BoolOp _ [a'] _ => !isIf a && chkE c sc a a'
    | _ => false
  | sc, .not a, e => match e with
    | .UnaryOp .Not a' _ => !isIf a && chkE c sc a a'
    | _ => false
  | sc, .ite t a b, e => match e with
    | .IfExp t' a' b' _ => (!isIf t && chkE c sc t t') && (chkE c sc a a' && chkE c sc b b')
    | _ => false
  | sc, .tup es, e => match e with
    | .Tuple es' _ _ => decide (lenA es ≤ 1000) && chkA c sc es es'
    | _ => false
  | sc, .lst es, e => match e with
    | .List es' _ => decide (lenA es ≤ 1000) && chkA c sc es es'
    | _ => false
  | sc, .newL es, e => match e with
    | .List es' _ => decide (lenA es ≤ 1000) && chkA c sc es es'
    | _ => false
  | _, .newD, e => match e with
    | .Dict [] [] _ => true
    | _ => false
  | sc, .newD1 k v, e => match k, v, e with
    | .var i, .lit (.bool b), .Dict [some (.Name x _)] [.Constant (.bool b') _ _] _ => (slot c i x && isLoc sc x && !(x == "__debug__") && !(x == "__classdict__")) && (b == b')
    | _, _, _ => false
  | sc, .ix a i, e => match e with
    | .Subscript a' i' _ => noSlc i' && (chkE c sc a a' && chkE c sc i i')
    | _ => false
  | sc, .slc a lo hi, e => match e with
    | .Subscript a' (.Slice lo' hi' none _) _ => chkE c sc a a' && (chkO c sc lo lo' && chkO c sc hi hi')
    | _ => false
  | sc, .rev a, e => match e with
    | .Subscript a' (.Slice none none (some (.UnaryOp .USub (.Constant (.int i) _ _) _)) _) _ => decide (i = 1) && chkE c sc a a'
    | _ => false
  | sc, .call f es, e => match e with
    | .Call (.Name x _) es' [] _ => (decide (c.fns[f]? = some x) && isGl sc x && !(x == "__debug__")) && chkA c sc es es'
    | _ => false
  | sc, .callIx fs i es, e => match e with
    | .Call (.Subscript (.List ns _) i' _) (e1 :: es') [] _ => (chkNs c sc fs ns && noSlc i' && decide (fs.length ≤ 1000)) && (chkE c sc i i' && chkA c sc es (e1 :: es'))
    | _ => false
  | sc, .blt b es, e => match e with
    | .Call (.Name x _) (e1 :: es') [] _ => match b with
      | .lenSet => match e1, es' with
        | .Call (.Name y _) [e2] [] _, [] => (decide (x = "len") && decide (y = "set") && isGl sc x && isGl sc y) && chkA c sc es [e2]
        | _, _ => false
      | _ => (decide (x = bltN b) && isGl sc x) && chkA c sc es (e1 :: es')
    | _ => false
  | sc, .newLst a, e => match e with
    | .Call (.Name x _) [a'] [] _ => (decide (x = "list") && isGl sc x) && (unst a' && chkE c sc a a')
    | _ => false
  | sc, .dlist a, e => match e with
    | .Call (.Name x _) [a'] [] _ => (decide (x = "list") && isGl sc x) && (unst a' && chkE c sc a a')
    | _ => false
  | _, .dsort _, _ => false
  | sc, .isT a t, e => match e with
    | .Call (.Name x _) [a', .Name y _] [] _ => (decide (x = "isinstance") && decide (y = tyS t) && isGl sc x && isGl sc y) && (unst a' && chkE c sc a a')
    | _ => false
  | sc, .mth m o es, e => match e with
    | .Call (.Attribute o' n p) es' [] q => (decide (n = mthN m) && noBare o' && (p.endLine == q.line) && decide (lenA es ≤ 20)) && (chkE c sc o o' && chkA c sc es es') && (match m with
      | .get2 => false
      | _ => true)
    | _ => false
  | sc, .comp own tg it cond a, e => match e with
    | .ListComp a' [⟨tg', it', ifs, 0⟩] scope _ => (blkC c.N sc scope (ownOf c own) && chkTg c (relS scope sc) tg tg' && chkTg c scope tg tg' && tgIn own tg) && ((chkI c sc it it' (pairT tg') && !isIfO cond) && chkE c (relS scope sc) a a') && (match ifs with
      | [] => chkO c (relS scope sc) cond none
      | [x] => chkO c (relS scope sc) cond (some x)
      | _ => false)
    | _ => false
def chkA (c : Cc) : Scope → IA → List Expr → Bool
  | _, .nil, es => match es with
    | [] => true
    | _ => false
  | sc, .cons a r, es => match es with
    | a' :: r' => (unst a' && chkE c sc a a') && chkA c sc r r'
    | _ => false
def chkO (c : Cc) : Scope → IO → Option Expr → Bool
  | _, .none, e => match e with
    | none => true
    | _ => false
  | sc, .some a, e => match e with
    | some a' => chkE c sc a a'
    | _ => false
def chkI (c : Cc) : Scope → II → Expr → Bool → Bool
  | sc, .seq a, e, _ => (match e with
    | .Set .. => false
    | _ => true) && chkE c sc a e
  | _, .dkeys _, _, _ => false
  | sc, .range1 a, e, _ => match e with
    | .Call (.Name x _) [a'] [] _ => (decide (x = "range") && isGl sc x) && (unst a' && chkE c sc a a')
    | _ => false
  | sc, .range3 a b d, e, _ => match e with
    | .Call (.Name x _) [a', b', d'] [] _ => (decide (x = "range") && isGl sc x) && ((unst a' && chkE c sc a a') && ((unst b' && chkE c sc b b') && (unst d' && chkE c sc d d')))
    | _ => false
  | sc, .enum a, e, t => match e with
    | .Call (.Name x _) [a'] [] _ => (decide (x = "enumerate") && isGl sc x && t) && (unst a' && chkE c sc a a')
    | _ => false
  | sc, .zip a b, e, t => match e with
    | .Call (.Name x _) [a', b'] [] _ => (decide (x = "zip") && isGl sc x && t) && ((unst a' && chkE c sc a a') && (unst b' && chkE c sc b b'))
    | _ => false
def chkNs (c : Cc) (sc : Scope) : List Nat → List Expr → Bool
  | [], es => match es with
    | [] => true
    | _ => false
  | f :: fs, es => match es with
    | .Name x _ :: r => (decide (c.fns[f]? = some x) && isGl sc x && !(x == "__debug__")) && chkNs c sc fs r
    | _ => false
end
/-! ### the readings -/
section
/-- an exception, by its class's place -/
def wX (cl : List Addr) (W : WX) (σ : L2.St) : Nat → Hp → Prop := fun k H => ∃ C, cl[k]? = some C ∧ W (.ref C) none σ H
variable (X : Cx) (G : List Fn) (cl : List Addr) (W : WX)
def tE (e : IE) : TE := fun σ H Q => ∃ M env st, SR X M H st ∧ EnvR (Fz M H) M env σ ∧ OkX X M H (ev G e env st) Q (wX cl W σ)
abbrev relA (M : List Addr) (H : Hp) (xs : List V) (vs : List EV) : Prop := Paired (fun x v => EVr (Fz M H) M x v) xs vs
abbrev OkA (M : List Addr) (H : Hp) (r : R (List EV)) (Q : List V → Hp → Prop) (E : Nat → Hp → Prop) : Prop := OkG X.prog X.w relA M H r Q E
def tA (es : IA) : TA := fun σ H Q => ∃ M env st, SR X M H st ∧ EnvR (Fz M H) M env σ ∧ OkA X M H (evs G es env st) Q (wX cl W σ)
abbrev relO (_ : List Addr) (_ : Hp) (x : Option Int) (v : Option Int) : Prop := x = v
def tO (o : IO) : TO := fun σ H Q => ∃ M env st, SR X M H st ∧ EnvR (Fz M H) M env σ ∧ OkG X.prog X.w relO M H (evo G o env st) Q (wX cl W σ)
/-- what goes over: any iterator over these items -/
abbrev relI (M : List Addr) (H : Hp) (J : It) (its : Items) : Prop := Wk X M H its J ∧ ∃ st, SR X M H st ∧ guardOk its.src st = true
def tI (it : II) : TI := fun σ H R => ∃ M env st, SR X M H st ∧ EnvR (Fz M H) M env σ ∧ OkG X.prog X.w (relI X) M H (evI G it env st) R (wX cl W σ)
/-- a def's promise, by what it says -/
def SpOf (P : Program) (w : World) (cl : List Addr) (f : Fn) : Sp := fun vs H Q E => ∃ M st args, SRel P w M H st ∧ Paired (fun x v => EVr (Fz M H) M x v) vs args ∧ args.length = f.ar ∧ OkE P w M H (f.den args st) Q (fun k H' => ∃ C, cl[k]? = some C ∧ E (.ref C) none H')
structure FnAt (f : Fn) : Prop where
  at_ : ∃ (k : Nat) (fa : Addr) (fd : FuncData) (ps : List Str), FnOk X.prog X.w X.K X.mg X.base (L2N.CX X.prog X.w) k fa fd ps (SpOf X.prog X.w cl f) ∧ Room k X.A ∧ X.mg f.name = some (.ref fa) ∧ PySem.W.keepIn X.K (.ref fa) = true ∧ Binds X.K fd ps []
/-- a context in which checked text runs as the evaluator says -/
structure Gd (c : Cc) (sc : Scope) : Prop where
  N : X.N = c.N
  nd : X.N.Nodup
  sc : X.env.scope = sc
  calm : X.calm = true
  hu : X.A.units + 70 < cLine
  tk : L2N.Takes X W
  fns : ∀ (i : Nat) (x : Str), c.fns[i]? = some x → ∃ f, G[i]? = some f ∧ f.name = x ∧ FnAt X cl f
  blt : ∀ n ∈ bltNames, X.mg n = none
structure Snd (ie : IE) (e : Expr) : Prop where
  pe : PE X e (tE X G cl W ie)
  pt : isIf ie = false → PT X e (tB (tE X G cl W ie))
  pw : isB ie = true → PW X e (tB (tE X G cl W ie))
end
end PD

set_option Elab.async false
set_option linter.all false
set_option maxRecDepth 100000
set_option maxHeartbeats 1000000
/-! The lesser of two things, as the heap that stood before the call reads them. -/
namespace PD
open PySem PySem.Spec PyProof.Rows L2
section
variable {prog : Program} {w : World} {A : Around} {E : Value → Shared → Prop} {s : Shared}
/-- what the walk over the pair must give -/
def PairWalk (prog : Program) (w : World) (A : Around) (Q : Value → Shared → Prop) (it : Value) (t : Shared) : Prop :=
  ∃ (j : Addr) (foot own : List Addr) (rel : Array GenState → Array GenState → Prop) (size : Nat) (item : Nat → Value → Prop) (state : Nat → Shared → Prop) (old : Heap) (less : Nat → Nat → Bool), it = .ref j ∧ WalksS prog w A.in1 j foot own rel size item state ∧ state 0 t ∧ (∀ b ∈ foot, b < t.heap.objs.size) ∧ 0 < size ∧
    (∀ b o, old.get? b = some o → b ∉ own) ∧ (∀ b o, old.get? b = some o → t.heap.get? b = some o) ∧ CmpIn prog w A.in1 .Lt old item less ∧ ∀ v s', item (argBest less (size - 1)) v → Moved own rel t s' → Q v s'
theorem min_pair {a b : Value} {Q : Value → Shared → Prop}
    (h : wpAny (model prog w) A.in1 (pyIter (.ref s.heap.objs.size)) (PairWalk prog w A Q) E { s with heap := s.heap.push { cls := .type "tuple", data := .seq #[a, b] } }) :
    wpAny (model prog w) A (call (.builtin "min") [a, b]) Q E s := by
  have nm : (toString "min" ++ toString ".loop" : String) = "min.loop" := by decide
  refine call_function_tree F.kind_min F.plain_min F.entry_min (F.args_min2 a b) ?_
  show wpAny _ A.in1 (Builtin.Builtins.bindParams "min" ["key", "default"] 0 ⟨[], []⟩ >>= _) _ _ s
  refine wpAny_bind ?_
  refine wpAny_of_eq (show Builtin.Builtins.bindParams "min" ["key", "default"] 0 ⟨[], []⟩ = pure [none, none] from rfl) ?_
  show wpAny _ A.in1 (newTuple [a, b] >>= _) _ _ s
  refine wpAny_bind ?_
  refine wpAny_newObj_type ?_
  refine wpAny_bind ?_
  refine wpAny_mono h (fun it t ht => ?_) fun _ _ e => e
  obtain ⟨j, foot, own, rel, size, item, state, old, less, rfl, W, h0, hf, hz, hw, hk, hc, hQ⟩ := ht
  refine wpAny_bind ?_
  refine wpAny_newObj_type ?_
  have off : t.heap.objs.size ∉ foot := fun hm => Nat.lt_irrefl _ (hf _ hm)
  rw [nm]
  refine wpAny_pure ?_
  refine ⟨plainId_quiet F.plain_min_loop _, ?_⟩
  refine codeAny_min_loop_firstH W old hw less hc t.heap.objs.size off (fresh_in hk) _ hz (fun b o e => Heap.get?_push_of_some _ (hk b o e)) (W.frame 0 t _ t.toks h0 (Nat.le_refl _) fun b _ o e => Heap.get?_push_of_some _ e) (Heap.get?_push_size _ rfl) fun v s' hP hm => ?_
  exact hQ v s' hP (Moved.drop_new (tk := t.toks) hm (Nat.le_refl _))
theorem min_pair_data {a b : Value} {x y : PyData} {as : List Addr} {Q : Value → Shared → Prop} (hh : A.handled = none) (hr : ReadsAll s.heap [a, b] [x, y] as) (ha : PySem.W.AlikeAll [x, y]) (hu : A.units + 1 + PyData.depthAll [x, y] < cLine)
    (h : ∀ v h' tk bs, (v = a ∨ v = b) → Reads h' v (PySem.W.minD x [y]) bs → (∀ b o, s.heap.get? b = some o → h'.get? b = some o) → Q v { s with heap := h', toks := tk }) :
    wpAny (model prog w) A (call (.builtin "min") [a, b]) Q E s := by
  have hT : (s.heap.push { cls := .type "tuple", data := .seq #[a, b] }).IsTuple s.heap.objs.size #[a, b] := ⟨_, Heap.get?_push_size _ rfl, rfl, 0, rfl⟩
  have up : ∀ c o, s.heap.get? c = some o → (s.heap.push { cls := .type "tuple", data := .seq #[a, b] }).get? c = some o := fun c o e => Heap.get?_push_of_some _ e
  refine min_pair (PySem.W.iter_tupleW (A := A.in1) hh hT fun s₂ e W st hfp hw hk => ?_)
  refine ⟨_, _, _, _, 2, _, _, s.heap, _, rfl, W, st, hfp, by decide, fun c o e => hw c o (up c o e), fun c o e => hk c o (up c o e), PySem.W.cmpIn_lt (A := A.in1) (vs := #[a, b]) hr ha (by show A.units + 1 + _ < _; exact hu), fun v s' hP m => ?_⟩
  obtain ⟨h', tk, rfl, hk'⟩ := PySem.W.moved_old e rfl m
  obtain ⟨bs, r, _, _, _⟩ := PySem.W.readsAll_atA hr _ v hP
  have e2 := (PySem.W.argBest_fold PySem.W.dataLt PyData.none x [y] 1 (Nat.le_refl _)).2
  have keep : ∀ c o, s.heap.get? c = some o → h'.get? c = some o := fun c o e => hk' c o (up c o e)
  refine h v h' tk bs ?_ (PySem.W.reads_keeps keep (by rw [show PySem.W.minD x [y] = _ from e2.symm]; exact r)) keep
  obtain ⟨n, hn⟩ : ∃ n, argBest (fun i j => PySem.W.dataLt ([x, y].getD i .none) ([x, y].getD j .none)) (2 - 1) = n := ⟨_, rfl⟩
  rw [hn] at hP
  match n, hP with
  | 0, hP => exact .inl (Option.some.inj hP).symm
  | 1, hP => exact .inr (Option.some.inj hP).symm
  | n + 2, hP => cases hP
end
section
variable {X : Cx}
theorem cr_min2D (hc : X.calm = true) (hu : X.A.units + 66 < cLine) : CallR X (.builtin "min") (rPair X min2D) := by
  intro pins s σ H xs us Q I r ⟨x, y, M, st, v, u, d, e, E, exs, S, ev, eu, hd, he, h⟩
  subst exs
  unfold min2D at h
  split at h
  · replace h : OkX X M H (.ok (.dat (.int _)) st) Q E := h
    obtain rfl := (rd_top S ev hd).int
    obtain rfl := (rd_top S eu he).int
    exact call_min2 hc pins s σ H _ us Q I r ⟨_, _, rfl, h.same S (.int _)⟩
  · rename_i xs ys
    by_cases c : minOk [.tuple xs, .tuple ys] = true
    · rw [if_pos c] at h
      replace h : OkX X M H (.ok (.dat (PySem.W.minD (.tuple xs) [.tuple ys])) st) Q E := h
      simp only [minOk, Bool.and_eq_true, decide_eq_true_eq] at c
      obtain ⟨⟨⟨cA, cL⟩, cN⟩, cD⟩ := c
      have hal := alikes_of cA
      rw [List.all_eq_true] at cN
      obtain ⟨a, zs, rfl, h1, h2⟩ := (rd_top S ev hd).tuple
      obtain ⟨b, ts, rfl, g1, g2⟩ := (rd_top S eu he).tuple
      have d1 : Dr (Fz M H) (.ref a) (.tuple xs) := .tup h1 h2
      have d2 : Dr (Fz M H) (.ref b) (.tuple ys) := .tup g1 g2
      obtain ⟨p, q, rfl, ra, rb⟩ := vals2 r
      obtain ⟨as, rs⟩ := Dp.readsAll I [.tuple xs, .tuple ys] [.ref a, .ref b] [p, q] (Drs.dp _ _ (Drs.sub Fz_sub _ _ (.cons d1 (.cons d2 .nil)))) r
      refine min_pair_data (I.ok.hd hc) rs ⟨hal, fun y hy => isNone_ne (cN y hy)⟩ (by omega) fun z h' tk bs hz rm keep => ?_
      have I2 : Inv X pins σ H { s with heap := h', toks := tk } := I.kept keep
      have mm := minD_mem [.tuple ys] (.tuple xs)
      rcases hz with rfl | rfl
      · obtain ⟨cs, r2⟩ := Dp.reads I2 _ (.ref a) _ (Dr.dp _ _ (Dr.sub Fz_sub _ _ d1)) ra
        have ed := PySem.W.alike_unique _ _ _ _ _ (hal _ List.mem_cons_self _ mm) r2 rm
        rw [← ed] at h
        exact ⟨.ref a, H, I2, ra, h.same S d1⟩
      · obtain ⟨cs, r2⟩ := Dp.reads I2 _ (.ref b) _ (Dr.dp _ _ (Dr.sub Fz_sub _ _ d2)) rb
        have ed := PySem.W.alike_unique _ _ _ _ _ (hal _ (List.mem_cons_of_mem _ List.mem_cons_self) _ mm) r2 rm
        rw [← ed] at h
        exact ⟨.ref b, H, I2, rb, h.same S d2⟩
    · rw [if_neg c] at h
      exact h.elim
  · exact h.elim
end
end PD

set_option Elab.async false
set_option linter.all false
set_option maxRecDepth 100000
set_option maxHeartbeats 1000000
/-! The rules, node by node. -/
namespace PD
open PySem PySem.Spec PyProof.Rows L2
example (c : Cc) (sc : Scope) (p : Pos) : chkE c sc (.neg (.lit (.int 1))) (.UnaryOp .USub (.Constant (.int 1) 0 p) p) = true := rfl
/-! ### side conditions -/
theorem star_cons {e : Expr} {es : List Expr} {env : PySem.Env} (h : unst e = true) : starEach (e :: es) env = (false, eval e env) :: starEach es env := by
  cases e <;> first
    | rfl
    | cases h
theorem all_and {p q : Bool} (h : (p && q) = true) : p = true ∧ q = true := by simpa using h
theorem plain_ix {b : Expr} (h : noSlc b = true) : PlainIx b := by
  intro o i
  cases b <;> first
    | rfl
    | cases h
theorem base_attr {o : Expr} {n : Str} {env : PySem.Env} (h : noBare o = true) : attributeBase o n env (eval o env) = eval o env := by
  cases o <;> first
    | rfl
    | cases h
theorem vis_of {sc : Scope} {x : Str} (h : isLoc sc x = true) : Vis sc x := by
  unfold isLoc at h
  unfold Vis
  split at h <;> simp_all
theorem loc_of {sc : Scope} {x : Str} (h : isOwn sc x = true) : L2.Loc sc x := by
  unfold isOwn at h
  unfold L2.Loc
  split at h <;> simp_all
theorem gl_of {sc : Scope} {x : Str} (h : isGl sc x = true) : sc.names.lookup x = some .globalImplicit := by
  unfold isGl at h
  split at h <;> simp_all
section
variable {X : Cx} {G : List Fn} {cl : List Addr} {W : WX} {c : Cc} {sc : Scope}
theorem Gd.gl (g : Gd X G cl W c sc) {x : Str} (h : isGl sc x = true) : Gl X x := by
  show X.env.scope.names.lookup x = _
  rw [g.sc]
  exact gl_of h
theorem Gd.at (g : Gd X G cl W c sc) {i : Nat} {x : Str} (h : slot c i x = true) : X.N[i]? = some x := by
  rw [g.N]
  exact of_decide_eq_true h
theorem Gd.vis (g : Gd X G cl W c sc) {x : Str} (h : isLoc sc x = true) : Vis X.env.scope x := by
  rw [g.sc]
  exact vis_of h
theorem Gd.loc (g : Gd X G cl W c sc) {x : Str} (h : isOwn sc x = true) : L2.Loc X.env.scope x := by
  rw [g.sc]
  exact loc_of h
/-! ### monotony -/
theorem PE.imp {e : Expr} {t t' : TE} (h : PE X e t) (i : ∀ σ H Q, t' σ H Q → t σ H Q) : PE X e t' := ⟨fun pins s σ H Q I q => h.run pins s σ H Q I (i _ _ _ q)⟩
theorem PT.imp {e : Expr} {t t' : TT} (h : PT X e t) (i : ∀ σ H Q, t' σ H Q → t σ H Q) : PT X e t' := ⟨fun pins s σ H Q I q => h.run pins s σ H Q I (i _ _ _ q)⟩
theorem PW.imp {e : Expr} {t t' : TT} (h : PW X e t) (i : ∀ σ H Q, t' σ H Q → t σ H Q) : PW X e t' := ⟨fun wh pins s σ H Q I q => h.run wh pins s σ H Q I (i _ _ _ q)⟩
theorem PA.imp {e : List Expr} {t t' : TA} (h : PA X e t) (i : ∀ σ H Q, t' σ H Q → t σ H Q) : PA X e t' := ⟨fun pos pins s σ H Q I q => h.run pos pins s σ H Q I (i _ _ _ q)⟩
theorem PO.imp {e : Option Expr} {t t' : TO} (h : PO X e t) (i : ∀ σ H Q, t' σ H Q → t σ H Q) : PO X e t' := ⟨fun pins s σ H Q I q => h.run pins s σ H Q I (i _ _ _ q)⟩
theorem PI.imp {tg e : Expr} {t t' : TI} (h : PI X tg e t) (i : ∀ σ H Q, t' σ H Q → t σ H Q) : PI X tg e t' := ⟨fun pins s σ H Q I q => h.run pins s σ H Q I (i _ _ _ q)⟩
theorem PS.imp {e : Stmt} {t t' : TS} (h : PS X e t) (i : ∀ D σ H, t' D σ H → t D σ H) : PS X e t' := ⟨fun pins s σ H D I q => h.run pins s σ H D I (i _ _ _ q)⟩
theorem PSs.imp {e : List Stmt} {t t' : TS} (h : PSs X e t) (i : ∀ D σ H, t' D σ H → t D σ H) : PSs X e t' := ⟨fun pins s σ H D I q => h.run pins s σ H D I (i _ _ _ q)⟩
/-- a step of an expression, then the rest -/
theorem tE_step {α β : Type} {rel : List Addr → Hp → β → α → Prop} {a : IE} {σ : L2.St} {M : List Addr} {H : Hp} {env : Env} {st : Store} {k : EV → Store → R α} {Q : β → Hp → Prop} {Q' : VK} (S : SR X M H st) (V : EnvR (Fz M H) M env σ)
    (ok : OkG X.prog X.w rel M H ((ev G a env st).bind k) Q (wX cl W σ))
    (hq : ∀ M1 H1 st1 x v, Ext M H M1 H1 → SR X M1 H1 st1 → EVr (Fz M1 H1) M1 x v → EnvR (Fz M1 H1) M1 env σ → OkG X.prog X.w rel M1 H1 (k v st1) Q (wX cl W σ) → Q' x H1) : tE X G cl W a σ H Q' :=
  ⟨M, env, st, S, V, OkG.step ok fun M1 H1 st1 x v xx S1 r o => hq M1 H1 st1 x v xx S1 r (V.ext xx) o⟩
theorem tA_step {α β : Type} {rel : List Addr → Hp → β → α → Prop} {a : IA} {σ : L2.St} {M : List Addr} {H : Hp} {env : Env} {st : Store} {k : List EV → Store → R α} {Q : β → Hp → Prop} {Q' : List V → Hp → Prop} (S : SR X M H st) (V : EnvR (Fz M H) M env σ)
    (ok : OkG X.prog X.w rel M H ((evs G a env st).bind k) Q (wX cl W σ))
    (hq : ∀ M1 H1 st1 x v, Ext M H M1 H1 → SR X M1 H1 st1 → relA M1 H1 x v → EnvR (Fz M1 H1) M1 env σ → OkG X.prog X.w rel M1 H1 (k v st1) Q (wX cl W σ) → Q' x H1) : tA X G cl W a σ H Q' :=
  ⟨M, env, st, S, V, OkG.step ok fun M1 H1 st1 x v xx S1 r o => hq M1 H1 st1 x v xx S1 r (V.ext xx) o⟩
theorem tO_step {α β : Type} {rel : List Addr → Hp → β → α → Prop} {a : IO} {σ : L2.St} {M : List Addr} {H : Hp} {env : Env} {st : Store} {k : Option Int → Store → R α} {Q : β → Hp → Prop} {Q' : Option Int → Hp → Prop} (S : SR X M H st) (V : EnvR (Fz M H) M env σ)
    (ok : OkG X.prog X.w rel M H ((evo G a env st).bind k) Q (wX cl W σ))
    (hq : ∀ M1 H1 st1 x, Ext M H M1 H1 → SR X M1 H1 st1 → EnvR (Fz M1 H1) M1 env σ → OkG X.prog X.w rel M1 H1 (k x st1) Q (wX cl W σ) → Q' x H1) : tO X G cl W a σ H Q' :=
  ⟨M, env, st, S, V, OkG.step ok fun M1 H1 st1 x v xx S1 r o => hq M1 H1 st1 x xx S1 (V.ext xx) (by rw [show x = v from r]; exact o)⟩
/-- what stands there, carried on -/
theorem ev_on {M M' : List Addr} {H H' : Hp} {x : V} {v : EV} (r : EVr (Fz M H) M x v) (xx : Ext M H M' H') : EVr (Fz M' H') M' x v := EVr.ext xx r
theorem evs_on {M M' : List Addr} {H H' : Hp} {xs : List V} {vs : List EV} (r : relA M H xs vs) (xx : Ext M H M' H') : relA M' H' xs vs := Paired.mapP r fun _ _ q => EVr.ext xx q

/-! ### comparisons, subscripts by values -/
def rSt (X : Cx) (f : EV → EV → Store → R EV) : R2 := fun x y H Q => ∃ M st a b E, SR X M H st ∧ EVr (Fz M H) M x a ∧ EVr (Fz M H) M y b ∧ OkX X M H (f a b st) Q E
theorem op_cmpV (hu : X.A.units + 65 < cLine) (op : CmpOp) : OpR X (compareOp op) (rSt X (cmpV op)) := by
  intro pins s σ H x y v u Q I rx ry ⟨M, st, a, b, E, S, ea, eb, ok⟩
  have two : ∀ (o : CmpOp), (∀ Q', OkX X M H (match rd st a, rd st b with
      | some d, some e => match cmpD o d e with
        | some r => R.ok (EV.dat (.bool r)) st
        | none => R.err
      | _, _ => R.err) Q' E → wpAny (model X.prog X.w) X.A (compareOp o v u) (EP X pins σ Q') X.xe s) := fun o Q' ok => by
    split at ok
    · rename_i d e hd he
      refine opr_cmp hu o pins s σ H x y v u Q' I rx ry ⟨M, st, a, b, d, e, E, S, ea, eb, hd, he, ?_⟩
      split at ok
      · rename_i r hr
        show OkX X M H (ofO st ((cmpD o d e).map PyData.bool)) Q' E
        rw [hr]
        exact ok
      · exact ok.elim
    · exact ok.elim
  unfold cmpV at ok
  split at ok
  · rename_i k n
    split at ok
    · rename_i kvs g
      split at ok
      · rename_i hk
        obtain ⟨p, m, rfl⟩ := eb
        exact op_in_dict hu pins s σ H x _ v u Q I rx ry ⟨M, st, n, kvs, k, p, S, g, m, rfl, ea, hk, ok.now S (.bl _)⟩
      · exact ok.elim
    · rename_i ds g
      refine two _ Q ?_
      have e1 : rd st (.dat k) = some k := rfl
      have e2 : rd st (.loc n) = some (.list ds) := by
        unfold rd
        dsimp only
        rw [g]
      rw [e1, e2]
      exact ok
    · exact ok.elim
  · rename_i k n
    split at ok
    · rename_i kvs g
      split at ok
      · rename_i hk
        obtain ⟨p, m, rfl⟩ := eb
        exact op_nin_dict hu pins s σ H x _ v u Q I rx ry ⟨M, st, n, kvs, k, p, S, g, m, rfl, ea, hk, ok.now S (.bl _)⟩
      · exact ok.elim
    · rename_i ds g
      refine two _ Q ?_
      have e1 : rd st (.dat k) = some k := rfl
      have e2 : rd st (.loc n) = some (.list ds) := by
        unfold rd
        dsimp only
        rw [g]
      rw [e1, e2]
      exact ok
    · exact ok.elim
  · exact two op Q ok
theorem atI_drs {F : Hp} {xs : List V} {ds : List PyData} {i : Int} {d : PyData} (h : Drs F xs ds) (e : atD ds i = some d) : ∃ v, atI xs i = some v ∧ Dr F v d := by
  unfold atD atI at *
  rw [h.length]
  cases q : ixN ds.length i with
  | none =>
    rw [q] at e
    cases e
  | some j =>
    rw [q] at e
    exact h.get e
theorem ix_all (hu : X.A.units + 65 < cLine) : IxR X (rSt X ixV) := by
  intro value slice pins s σ H x y v u Q I rx ry ⟨M, st, a, b, E, S, ea, eb, ok⟩ hs
  unfold ixV at ok
  split at ok
  · rename_i k
    cases eb
    split at ok
    · rename_i d hd
      have t := rd_top S ea hd
      split at ok
      · rename_i ds hq
        cases hat : atD ds k with
        | none =>
          rw [hat] at ok
          exact ok.elim
        | some z =>
          rw [hat] at ok
          cases d with
          | list es =>
            cases hq
            obtain ⟨p, xs, rfl, h1, h2⟩ := t.list
            obtain ⟨w, e1, e2⟩ := atI_drs h2 hat
            exact ix_list value slice pins s σ H _ _ v u Q I rx ry ⟨p, xs, k, w, rfl, rfl, .inl h1, e1, ok.now S e2⟩ hs
          | tuple es =>
            cases hq
            obtain ⟨p, xs, rfl, h1, h2⟩ := t.tuple
            obtain ⟨w, e1, e2⟩ := atI_drs h2 hat
            exact ix_tup value slice pins s σ H _ _ v u Q I rx ry ⟨p, xs, k, w, rfl, rfl, SqT.fz h1, e1, ok.now S e2⟩ hs
          | _ => cases hq
      · exact ok.elim
    · exact ok.elim
  · rename_i k _
    split at ok
    · rename_i n
      split at ok
      · rename_i kvs g
        split at ok
        · rename_i hk
          cases hl : lookD kvs k with
          | none =>
            rw [hl] at ok
            exact ok.elim
          | some d =>
            rw [hl] at ok
            obtain ⟨p, m, rfl⟩ := ea
            exact ix_dict hu value slice pins s σ H _ y v u Q I rx ry ⟨M, st, n, kvs, k, p, d, S, g, m, rfl, eb, hk, hl, fun z dz => ok.now S dz⟩ hs
        · exact ok.elim
      · exact ok.elim
    · exact ok.elim
  · exact ok.elim
/-! ### calls of built-ins -/
def rBlt (X : Cx) (f : List PyData → Option PyData) : List V → Hp → VK → Prop := fun xs H Q => ∃ M st vs ds E, SR X M H st ∧ relA M H xs vs ∧ rds st vs = some ds ∧ OkX X M H (ofO st (f ds)) Q E
theorem rds_one {st : Store} {v : EV} {ds : List PyData} {d : PyData} (h : rds st [v] = some ds) (e : ds = [d]) : rd st v = some d := by
  subst e
  unfold rds at h
  split at h
  · rename_i d' ds' h1 h2
    cases h
    exact h1
  · cases h
theorem rds_length {st : Store} : ∀ {vs : List EV} {ds : List PyData}, rds st vs = some ds → vs.length = ds.length
  | [], ds, h => by cases h; rfl
  | v :: vs, ds, h => by
    unfold rds at h
    split at h
    · rename_i d es h1 h2
      cases h
      rw [List.length_cons, List.length_cons, rds_length h2]
    · cases h
theorem cr_of1 {f : Value} {g : PyData → Option PyData} (h : CallR X f (rOne X g)) : CallR X f (rBlt X (one1 g)) := by
  intro pins s σ H xs us Q I r ⟨M, st, vs, ds, E, S, rs, hd, ok⟩
  unfold one1 at ok
  split at ok
  · rename_i d
    have hl := rds_length hd
    cases rs with
    | nil => cases hl
    | @cons x v xs' vs' r1 r2 =>
      cases r2 with
      | nil => exact h pins s σ H _ us Q I r ⟨x, M, st, v, d, E, rfl, S, r1, rds_one hd rfl, ok⟩
      | cons _ _ => simp at hl
  · exact ok.elim
theorem cr_of2 {f : Value} {g : PyData → PyData → Option PyData} (h : CallR X f (rPair X g)) : CallR X f (rBlt X (one2 g)) := by
  intro pins s σ H xs us Q I r ⟨M, st, vs, ds, E, S, rs, hd, ok⟩
  unfold one2 at ok
  split at ok
  · rename_i d e
    have hl := rds_length hd
    cases rs with
    | nil => cases hl
    | @cons x v xs' vs' r1 r2 =>
      cases r2 with
      | nil => simp at hl
      | @cons y u ys us' r3 r4 =>
        cases r4 with
        | cons _ _ => simp at hl
        | nil =>
          unfold rds at hd
          split at hd
          · rename_i d' es' h1 h2
            cases hd
            exact h pins s σ H _ us Q I r ⟨x, y, M, st, v, u, d, e, E, rfl, S, r1, r3, h1, rds_one h2 rfl, ok⟩
          · cases hd
  · exact ok.elim
/-- the value of the built-in -/
def bltV : Blt → Value
  | .len => .builtin "len"
  | .tuple => .type "tuple"
  | .sorted => .builtin "sorted"
  | .list => .type "list"
  | .sum => .builtin "sum"
  | .all => .builtin "all"
  | .str => .type "str"
  | .int => .type "int"
  | .min2 => .builtin "min"
  | .maxL => .builtin "max"
  | .minD => .builtin "min"
  | .lenSet => .none
theorem cr_blt (hc : X.calm = true) (hu : X.A.units + 70 < cLine) : ∀ (b : Blt), (∀ x : Unit, b ≠ .lenSet) → CallR X (bltV b) (rBlt X (bltD b))
  | .len, _ => cr_of1 cr_len
  | .tuple, _ => cr_of1 cr_tuple
  | .sorted, _ => cr_of1 (cr_sortedD (by omega))
  | .list, _ => cr_of1 cr_list
  | .sum, _ => cr_of1 (cr_sumD hc)
  | .all, _ => cr_of1 (cr_allD hc)
  | .str, _ => cr_of1 cr_strD
  | .int, _ => cr_of1 cr_intD
  | .min2, _ => cr_of2 (cr_min2D hc (by omega))
  | .maxL, _ => cr_of1 (cr_maxD hc)
  | .minD, _ => cr_of1 (cr_minLD hc (by omega))
  | .lenSet, h => absurd rfl (h ())
end
end PD

set_option Elab.async false
set_option linter.all false
set_option maxRecDepth 100000
set_option maxHeartbeats 1000000
/-! Targets, comprehensions. -/
namespace PD
open PySem PySem.Spec PyProof.Rows L2
section
variable {X : Cx} {G : List Fn} {cl : List Addr} {W : WX} {c : Cc} {sc : Scope}
theorem wipe_at {σ : L2.St} : ∀ (vs : List Nat) (j : Nat), (wipe σ vs)[j]? = if j ∈ vs then (if j < σ.length then some none else none) else σ[j]?
  | [], j => by simp [wipe]
  | v :: vs, j => by
    have ih := wipe_at (σ := σ) vs j
    unfold wipe
    by_cases h : v = j
    · subst h
      by_cases hl : v < (wipe σ vs).length
      · rw [List.getElem?_set_self hl]
        rw [wipe_length] at hl
        simp [hl]
      · rw [List.getElem?_eq_none (by rw [List.length_set]; omega)]
        rw [wipe_length] at hl
        simp [hl]
    · rw [List.getElem?_set_ne h, ih]
      have ne : ¬ j = v := fun e => h e.symm
      simp [ne]
theorem wipe_set {σ : L2.St} {vs : List Nat} {i : Nat} {x : Option V} (h : i ∈ vs) : wipe (σ.set i x) vs = wipe σ vs := by
  apply List.ext_getElem?
  intro j
  rw [wipe_at, wipe_at, List.length_set]
  by_cases hj : j ∈ vs
  · simp [hj]
  · have ne : i ≠ j := fun e => hj (e ▸ h)
    simp [hj, List.getElem?_set_ne ne]
/-- a target takes an item -/
def tG (tg : Tg) : TG := fun v σ H Q => ∃ M env env2 d, EnvR (Fz M H) M env σ ∧ Dr (Fz M H) v d ∧ bindT tg env d = some env2 ∧ ∀ σ2, EnvR (Fz M H) M env2 σ2 → (∀ vs, tgIn vs tg = true → wipe σ2 vs = wipe σ vs) → σ2.length = σ.length → Q σ2 H
theorem PG.imp {e : Expr} {t t' : TG} (h : PG X e t) (i : ∀ v σ H Q, t' v σ H Q → t v σ H Q) : PG X e t' := ⟨fun pins s σ H v u Q I r q => h.run pins s σ H v u Q I r (i _ _ _ _ q)⟩
theorem pg_tg (hN : X.N = c.N) (nd : X.N.Nodup) (hs : X.env.scope = sc) (calm : X.calm = true) {sc2 : Scope} (own : ∀ x, isOwn sc2 x = true → X.fn x = true ∨ X.env.scope.names.lookup x = some .local) : ∀ (tg : Tg) (e : Expr), chkTg c sc tg e = true → chkTg c sc2 tg e = true → PG X e (tG tg)
  | .one i, e, h, h' => by
    unfold chkTg at h
    dsimp only at h
    split at h
    · rename_i x p
      unfold chkTg at h'
      simp only [Bool.and_eq_true] at h h'

      have hi : X.N[i]? = some x := by rw [hN]; exact of_decide_eq_true h.1
      refine PG.imp (pg_name (i := i) nd hi (by rw [hs]; exact loc_of h.2) (own x h'.2)) fun v σ H Q q => ?_
      obtain ⟨M, env, env2, d, V, r, hb, q⟩ := q
      unfold bindT at hb
      cases hb
      refine q _ (V.set (v := .dat d) r i) (fun vs hv => wipe_set ?_) (by rw [List.length_set])
      unfold tgIn at hv
      exact List.contains_iff_mem.mp hv
    · cases h
  | .two i j, e, h, h' => by
    unfold chkTg at h
    dsimp only at h
    split at h
    · rename_i x px y py kk pt
      unfold chkTg at h'
      simp only [Bool.and_eq_true] at h h'
      obtain ⟨⟨⟨_, k2⟩, _⟩, k4⟩ := h'
      obtain ⟨⟨⟨h1, h2⟩, h3⟩, h4⟩ := h
      have hi : X.N[i]? = some x := by rw [hN]; exact of_decide_eq_true h1
      have hj : X.N[j]? = some y := by rw [hN]; exact of_decide_eq_true h3
      refine PG.imp (pg_tup (n := 2) calm (pgs_cons (pg_name (i := i) nd hi (by rw [hs]; exact loc_of h2) (own x k2)) (pgs_cons (pg_name (i := j) nd hj (by rw [hs]; exact loc_of h4) (own y k4)) pgs_nil))) fun v σ H Q q => ?_
      obtain ⟨M, env, env2, d, V, r, hb, q⟩ := q
      unfold bindT at hb
      split at hb
      · rename_i heq
        cases heq
      · rename_i i2 j2 env' dx dy heq
        cases heq
        cases hb
        cases r with
        | @tup a xs _ g1 g2 =>
          cases g2 with
          | @cons u us _ _ r1 r2 =>
            cases r2 with
            | @cons w ws _ _ r3 r4 =>
              cases r4
              refine ⟨a, [u, w], rfl, SqT.fz g1, rfl, u, [w], rfl, w, [], rfl, rfl, ?_⟩
              refine q _ ((V.set (v := .dat dx) r1 i).set (v := .dat dy) r3 j) (fun vs hv => ?_) (by rw [List.length_set, List.length_set])
              unfold tgIn at hv
              rw [Bool.and_eq_true] at hv
              rw [wipe_set (List.contains_iff_mem.mp hv.2), wipe_set (List.contains_iff_mem.mp hv.1)]
      · cases hb
    · cases h
/-! ### comprehensions -/
theorem guard_app {src : Option (Nat × List PyData)} {st : Store} {x : Cell} (h : guardOk src st = true) : guardOk src (st ++ [x]) = true := by
  unfold guardOk at *
  split at h
  · rfl
  · rename_i n ds
    cases e : st[n]? with
    | none => rw [e] at h; cases h
    | some q =>
      have hn : n < st.length := (List.getElem?_eq_some_iff.mp e).1
      rw [List.getElem?_append_left hn, e]
      rw [e] at h
      exact h
def OkP {α : Type} (r : R α) (P : α → Store → Prop) : Prop := match r with
  | .ok o st => P o st
  | _ => False
/-- one step of the list under construction -/
def nextL (g : Store → Bool) (f : PyData → Store → R (Option PyData)) (r : List PyData) (n : Nat) (o : Option PyData) (st1 : Store) : R (List PyData) :=
  if st1.length = n + 1 then (match st1[n]? with
      | some (.lst acc1) => if acc1.length < LIM then compL g f r (match o with
        | some y => acc1 ++ [y]
        | none => acc1) (st1.take n) else .err
      | _ => .err) else .err
theorem comp_cons {P : Program} {w : World} {M : List Addr} {H : Hp} {g : Store → Bool} {f : PyData → Store → R (Option PyData)} {d : PyData} {r acc : List PyData} {st : Store} {k : List PyData → Store → R EV} {Q : VK} {E : Nat → Hp → Prop}
    (ok : OkE P w M H ((compL g f (d :: r) acc st).bind k) Q E) : g st = true ∧ OkP (f d (st ++ [.lst acc])) (fun o st1 => OkE P w M H ((nextL g f r st.length o st1).bind k) Q E) := by
  unfold compL at ok
  split at ok
  · rename_i hg
    refine ⟨hg, ?_⟩
    unfold OkP
    split at ok
    · rename_i o st1 he
      rw [he]
      exact ok
    · exact ok.elim
  · exact ok.elim
/-- the state at a turn -/
structure Turns (X : Cx) (M1 : List Addr) (H1 : Hp) (D : Addr) (g : Store → Bool) (f : PyData → Store → R (Option PyData)) (ds : List PyData) (k : List PyData → Store → R EV) (Q : VK) (E : Nat → Hp → Prop) (i : Nat) (H : Hp) : Prop where
  le : i ≤ ds.length
  ext : Ext M1 H1 (M1 ++ [D]) H
  go : ∃ acc st, SR X (M1 ++ [D]) H (st ++ [.lst acc]) ∧ M1.length = st.length ∧ OkX X M1 H1 ((compL g f (ds.drop i) acc st).bind k) Q E
theorem take_set {α : Type} {l : List α} {n : Nat} (x : α) (h : l.length = n + 1) : l.set n x = l.take n ++ [x] := by
  apply List.ext_getElem?
  intro j
  by_cases hj : j = n
  · subst hj
    rw [List.getElem?_set_self (by omega), List.getElem?_append_right (by rw [List.length_take]; omega), List.length_take]
    have : j - min j l.length = 0 := by omega
    rw [this]
    rfl
  · rw [List.getElem?_set_ne (Ne.symm hj)]
    by_cases hl : j < n
    · rw [List.getElem?_append_left (by rw [List.length_take]; omega), List.getElem?_take, if_pos hl]
    · rw [List.getElem?_eq_none (by omega), List.getElem?_eq_none (by rw [List.length_append, List.length_take]; simp; omega)]
theorem take_last {α : Type} {l : List α} {n : Nat} {x : α} (h : l.length = n + 1) (e : l[n]? = some x) : l = l.take n ++ [x] := by
  rw [← take_set x h]
  apply List.ext_getElem?
  intro j
  by_cases hj : n = j
  · subst hj
    rw [List.getElem?_set_self (by omega), e]
  · rw [List.getElem?_set_ne hj]
theorem turns_next {M1 M3 : List Addr} {H1 H H3 : Hp} {D : Addr} {g : Store → Bool} {f : PyData → Store → R (Option PyData)} {ds : List PyData} {k : List PyData → Store → R EV} {Q : VK} {E : Nat → Hp → Prop} {i n : Nat} {o : Option PyData} {st1 : Store}
    (hi : i < ds.length) (hn : M1.length = n) (x1 : Ext M1 H1 (M1 ++ [D]) H) (x3 : Ext (M1 ++ [D]) H M3 H3) (S3 : SR X M3 H3 st1) (ok : OkX X M1 H1 ((nextL g f (ds.drop (i + 1)) n o st1).bind k) Q E) :
    ∃ vs acc1, M3 = M1 ++ [D] ∧ H3 D = some (.lst vs) ∧ vs.length < sizeLine ∧ Drs (Fz M3 H3) vs acc1 ∧ (o = none → Turns X M1 H1 D g f ds k Q E (i + 1) H3) ∧
      ∀ y z, o = some z → Dr (Fz M3 H3) y z → Turns X M1 H1 D g f ds k Q E (i + 1) (upd H3 D (.lst (vs ++ [y]))) := by
  unfold nextL at ok
  split at ok
  · rename_i hlen
    split at ok
    · rename_i acc1 hacc
      split at ok
      · rename_i hlim
        obtain ⟨L, eL, fL⟩ := x3.pre
        have hm : M3.length = n + 1 := by rw [S3.len, hlen]
        have hl := congrArg List.length eL
        simp only [List.length_append, List.length_cons, List.length_nil] at hl
        have eM : M3 = M1 ++ [D] := by
          have : L.length = 0 := by omega
          rw [eL, List.length_eq_zero_iff.mp this, List.append_nil]
        have mD : M3[n]? = some D := by
          rw [eM, List.getElem?_append_right (by omega), hn, Nat.sub_self]
          rfl
        obtain ⟨vs, h1, h2⟩ := S3.cell n _ D hacc mD
        refine ⟨vs, acc1, eM, h1, ?_, h2, fun eo => ?_, fun y z eo r => ?_⟩
        · rw [h2.length]
          exact Nat.lt_of_lt_of_le hlim lim_line
        · subst eo eM
          refine ⟨hi, x1.trans x3, acc1, st1.take n, ?_, ?_, ok⟩
          · rw [← take_last hlen hacc]
            exact S3
          · rw [List.length_take, hlen, hn]
            omega
        · subst eo eM
          have mem : D ∈ M1 ++ [D] := by simp
          refine ⟨hi, (x1.trans x3).trans (Ext.put mem h1), acc1 ++ [z], st1.take n, ?_, ?_, ok⟩
          · rw [← take_set _ hlen]
            exact S3.put mD ⟨_, upd_same, Drs.append h2 (.cons r .nil)⟩
          · rw [List.length_take, hlen, hn]
            omega
      · exact ok.elim
    · exact ok.elim
  · exact ok.elim
def tCond (X : Cx) (G : List Fn) (cl : List Addr) : IO → TT
  | .none => tYes
  | .some a => tB (tE X G cl (fun _ _ _ _ => False) a)
theorem okP_ev {a : IE} {σ : L2.St} {M : List Addr} {H : Hp} {env : Env} {st : Store} {Q' : VK} {P : EV → Store → Prop} (S : SR X M H st) (V : EnvR (Fz M H) M env σ) (ok : OkP (ev G a env st) P)
    (hq : ∀ M1 H1 st1 x v, Ext M H M1 H1 → SR X M1 H1 st1 → EVr (Fz M1 H1) M1 x v → EnvR (Fz M1 H1) M1 env σ → P v st1 → Q' x H1) : tE X G cl (fun _ _ _ _ => False) a σ H Q' := by
  refine ⟨M, env, st, S, V, ?_⟩
  unfold OkP at ok
  split at ok
  · rename_i v st1 he
    rw [he]
    exact fun M' H' x xx S' r => hq M' H' st1 x v xx S' r (V.ext xx) ok
  · exact ok.elim
theorem okP_bind {α β : Type} {r : R α} {k : α → Store → R β} {P : β → Store → Prop} (h : OkP (r.bind k) P) : OkP r fun a st => OkP (k a st) P := by
  cases r with
  | ok a st => exact h
  | exc _ _ => exact h
  | err => exact h
theorem comp_reads {own : List Nat} {tg : Tg} {it : II} {cond : IO} {e : IE} (hin : tgIn own tg = true) {σ : L2.St} {H : Hp} {Q : VK} (h : tE X G cl W (.comp own tg it cond e) σ H Q) :
    tLc (tI X G cl W it) (tG tg) (tCond X G cl cond) (tE X G cl (fun _ _ _ _ => False) e) own σ H Q := by
  obtain ⟨M, env, st, S, V, ok⟩ := h
  unfold ev at ok
  refine ⟨M, env, st, S, V, OkG.step ok fun M1 H1 st1 J its xx S1 wk ok1 => ?_⟩
  obtain ⟨wk, _⟩ := wk
  intro D nD
  split at ok1
  case isFalse => exact ok1.elim
  rename_i hlim
  have V1 := V.ext xx
  have len1 : M1.length = st1.length := S1.len
  have x0 : Ext M1 H1 (M1 ++ [D]) (upd H1 D (.lst [])) := Ext.cell nD
  have S0 : SR X (M1 ++ [D]) (upd H1 D (.lst [])) (st1 ++ [.lst []]) := S1.push nD ⟨[], upd_same, .nil⟩
  refine ⟨fun i m H => m = its.ds.length - i ∧ Turns X M1 H1 D (guardOk its.src) (elemF (fun env2 st2 => evC G cond env2 st2) (fun env2 st2 => ev G e env2 st2) own tg env) its.ds _ Q (wX cl W σ) i H, ⟨_, rfl, ⟨Nat.zero_le _, x0, [], st1, S0, len1, by rw [List.drop_zero]; exact ok1⟩⟩, ?_⟩
  rintro i m H2 ⟨rfl, T⟩
  obtain ⟨hi, x2, acc, st2, S2, len2, ok2⟩ := T
  by_cases hlt : i < its.ds.length
  · rw [List.drop_eq_getElem_cons hlt] at ok2
    obtain ⟨hg, ok3⟩ := comp_cons ok2
    have g2 : guardOk its.src (st2 ++ [.lst acc]) = true := guard_app hg
    refine .inr ⟨wk.go i _ _ _ x2 S2 g2 hlt, fun H' => Turns X M1 H1 D (guardOk its.src) (elemF (fun env2 st2 => evC G cond env2 st2) (fun env2 st2 => ev G e env2 st2) own tg env) its.ds _ Q (wX cl W σ) (i + 1) H', fun H' t => ⟨_, by omega, rfl, t⟩, fun x H3 hy => ?_⟩
    obtain ⟨x3, S3, rx⟩ := wk.yld i its.ds[i] _ _ _ x H3 x2 S2 g2 (List.getElem?_eq_getElem hlt) hy
    have x13 := x2.trans x3
    have V3 := (V1.ext x13).wipe own
    unfold elemF at ok3
    split at ok3
    case h_2 => exact ok3.elim
    rename_i env2 hb
    have ok4 := okP_bind ok3
    refine ⟨M1 ++ [D], _, env2, _, V3, rx, hb, fun σ2 V4 hw _ => ⟨?_, ?_⟩⟩
    · rw [hw own hin]
      apply List.ext_getElem?
      intro j
      rw [wipe_at, wipe_at, wipe_length]
      by_cases hj : j ∈ own <;> simp [hj]
    · have tail : ∀ M4 H4 st4, Ext (M1 ++ [D]) H3 M4 H4 → SR X M4 H4 st4 → EnvR (Fz M4 H4) M4 env2 σ2 → OkP ((ev G e env2 st4).bind fun y st5 => match y with
          | .dat z => R.ok (some z) st5
          | _ => R.err) (fun o st1 => OkX X M1 H1 ((nextL (guardOk its.src) (elemF (fun env2 st2 => evC G cond env2 st2) (fun env2 st2 => ev G e env2 st2) own tg env) (its.ds.drop (i + 1)) st2.length o st1).bind fun ys st5 => .ok (.dat (.list ys)) st5) Q (wX cl W σ)) →
          tE X G cl (fun _ _ _ _ => False) e σ2 H4 fun y H5 => ∃ acc, H5 D = some (.lst acc) ∧ acc.length < sizeLine ∧ Turns X M1 H1 D (guardOk its.src) (elemF (fun env2 st2 => evC G cond env2 st2) (fun env2 st2 => ev G e env2 st2) own tg env) its.ds (fun ys st5 => .ok (.dat (.list ys)) st5) Q (wX cl W σ) (i + 1) (upd H5 D (.lst (acc ++ [y]))) := fun M4 H4 st4 x4 S4 V5 ok5 => by
        refine okP_ev S4 V5 (okP_bind ok5) fun M5 H5 st5 y v x5 S5 ry _ p => ?_
        cases v with
        | loc n => exact p.elim
        | dat z =>
          obtain ⟨vs, acc1, eM, h1, h2, h3, _, h4⟩ := turns_next (o := some z) hlt len2 x13 (x4.trans x5) S5 p
          exact ⟨vs, h1, h2, h4 y z rfl ry⟩
      cases cond with
      | none =>
        unfold tCond tYes
        refine (if_pos rfl).mpr ?_
        exact tail _ _ _ (Ext.refl _ _) S3 V4 ok4
      | some t =>
        have ok6 : OkP (ev G t env2 (st2 ++ [.lst acc])) _ := ok4
        refine okP_ev S3 V4 ok6 fun M4 H4 st4 b v x4 S4 rb V4' p => ?_
        cases v with
        | loc n => exact p.elim
        | dat d =>
          cases d with
          | bool b' =>
            cases rb
            refine ⟨b', rfl, ?_⟩
            cases b' with
            | true =>
              rw [if_pos rfl]
              exact tail _ _ _ x4 S4 V4' p
            | false =>
              rw [if_neg Bool.false_ne_true]
              obtain ⟨vs, acc1, eM, h1, h2, h3, h4, _⟩ := turns_next (o := none) hlt len2 x13 x4 S4 p
              exact h4 rfl
          | _ => exact p.elim
  · have e1 : i = its.ds.length := by omega
    subst e1
    rw [List.drop_length] at ok2
    unfold compL at ok2
    split at ok2
    case isFalse => exact ok2.elim
    rename_i hg
    have g2 : guardOk its.src (st2 ++ [.lst acc]) = true := guard_app hg
    refine .inl ⟨wk.stop _ _ _ x2 S2 g2, ?_⟩
    have e2 : (M1 ++ [D]).take M1.length = M1 := List.take_left' rfl
    have e3 : (st2 ++ [Cell.lst acc]).take M1.length = st2 := by rw [len2]; exact List.take_left' rfl
    have S4 := S2.take M1.length
    rw [e2, e3] at S4
    have x4 := Ext.take S1 x2
    rw [e2] at x4
    obtain ⟨vs, h1, h2⟩ := S2.cell st2.length (.lst acc) D (by rw [List.getElem?_append_right (Nat.le_refl _), Nat.sub_self]; rfl) (by rw [← len2, List.getElem?_append_right (Nat.le_refl _), Nat.sub_self]; rfl)
    have nDM : D ∉ M1 := fun hm => by
      have nd := S2.nd
      rw [List.nodup_append] at nd
      exact nd.2.2 D hm D (by simp) rfl
    have sb : Sub (Fz (M1 ++ [D]) H2) (Fz M1 H2) := fun a o h => by
      obtain ⟨q1, q2⟩ := Fz_at h
      exact Fz_of q1 fun hm => q2 (by simp [hm])
    exact ok2 M1 H2 (.ref D) x4 S4 (.lst (.inl (Fz_of h1 nDM)) (Drs.sub sb _ _ h2))
end
end PD

set_option Elab.async false
set_option linter.all false
set_option maxRecDepth 100000
set_option maxHeartbeats 2000000
/-! t[::-1] of a tuple, and of a list. -/
namespace PD
open PySem PySem.Spec PyProof.Rows L2
theorem back_some {α : Type} : ∀ (l : List α) (f : Nat → Option α) (n : Nat), (∀ k, k < l.length → f (n + k) = l[k]?) → (List.range' n l.length).filterMap f = l
  | [], _, _, _ => rfl
  | x :: r, f, n, h => by
    have h0 : f n = some x := h 0 (by simp)
    rw [List.length_cons, List.range'_succ, List.filterMap_cons, h0]
    dsimp only
    rw [back_some r f (n + 1) fun k hk => by
      have := h (k + 1) (by rw [List.length_cons]; omega)
      rw [Nat.add_assoc, Nat.add_comm 1 k]
      exact this]
theorem back_pick {α : Type} (xs : Array α) : ((List.range xs.size).filterMap fun (k : Nat) => xs[(((xs.size : Nat) : Int) - 1 + (k : Int) * (-1)).toNat]?) = xs.toList.reverse := by
  have hl : xs.toList.reverse.length = xs.size := by rw [List.length_reverse, Array.length_toList]
  have key := back_some xs.toList.reverse (fun (k : Nat) => xs[(((xs.size : Nat) : Int) - 1 + (k : Int) * (-1)).toNat]?) 0 fun k hk => by
    rw [hl] at hk
    rw [List.getElem?_reverse (by rw [Array.length_toList]; exact hk), Array.length_toList, Nat.zero_add]
    have e : (((xs.size : Nat) : Int) - 1 + (k : Int) * (-1)).toNat = xs.size - 1 - k := by omega
    rw [e, Array.getElem?_toList]
  rw [hl] at key
  rw [List.range_eq_range']
  exact key
section
variable {prog : Program} {w : World} {A : Around} {E : Value → Shared → Prop} {s : Shared}
theorem item_back {t sl : Addr} {its : Array Value} {v1 v2 : Value} {u : Tok} {Q : Value → Shared → Prop} (ht : IsTup s.heap t its) (hs : s.heap.IsSliceOf sl v1 v2 (.int (-1) u)) (p1 : IsPart v1 none) (p2 : IsPart v2 none)
    (h : Q (.ref s.heap.objs.size) { s with heap := s.heap.push { cls := .type "tuple", data := .seq its.toList.reverse.toArray } }) (few : its.size ≤ sizeLine) : wpAny (model prog w) A (getItem (.ref t) (.ref sl)) Q E s := by
  have fits : sizeOk (.seq its.toList.reverse.toArray) := by
    show its.toList.reverse.toArray.size ≤ sizeLine
    rw [List.size_toArray, List.length_reverse, Array.length_toList]
    exact few
  obtain ⟨so, hso, hsc, hsd⟩ := id hs
  have ty : s.TypeIs (.ref sl) "slice" := ⟨so, hso, hsc⟩
  unfold getItem
  try with_reducible refine wpAny_holding ?_
  first | refine wpAny_bind (wpAny_pure ?_) | skip
  refine wpAny_bind (wpAny_sequenceKey ht.typeIs (by decide) ?_)
  refine wpAny_bind (wpAny_callSpecial?_slot (name := Str.ofString "__getitem__") ht.typeIs PyProof.Rows.slot_tuple_getitem
    (wpAny_call_entry PyProof.Rows.slot_tuple_getitem ht.typeIs entry_tuple_getitem ?_ (args_tuple_getitem _ _)))
  show wpAny _ _ (Builtin.Tuple.tupleItemsOf (.ref t) >>= _) _ _ s
  refine wpAny_bind (PyProof.Rows.tupleItemsOf_ ht (wpAny_bind (wpAny_typeOf ty ?_)))
  rw [if_pos (by decide)]
  refine wpAny_bind ?_
  unfold Builtin.Slice.sliceApplied Builtin.Slice.sliceFields
  refine wpAny_bind (wpAny_bind (wpAny_field hso hsd (x := v1) rfl (wpAny_bind (wpAny_field hso hsd (x := v2) rfl (wpAny_bind (wpAny_field hso hsd (x := .int (-1) u) rfl (wpAny_pure ?_)))))))
  refine wpAny_bind (HT.slicePart_ (.int (-1) u) ?_)
  show wpAny _ _ (if ((-1 : Int) == 0) = true then _ else _) _ _ s
  rw [if_neg (by decide)]
  refine wpAny_bind (HT.slicePart_ p1 (wpAny_bind (HT.slicePart_ p2 (wpAny_bind (wpAny_pure ?_)))))
  have adj : Builtin.Slice.sliceAdjust none none (-1) ((its.size : Nat) : Int) = (((its.size : Nat) : Int) - 1, -1) := rfl
  have pl : Builtin.Slice.slicePlaces (((its.size : Nat) : Int) - 1) (-1) (-1) = its.size := by
    unfold Builtin.Slice.slicePlaces
    rw [if_neg (by decide)]
    split
    · simp
    · omega
  show wpAny _ _ (match Builtin.Slice.sliceAdjust none none (-1) ((its.size : Nat) : Int) with | (lo, hi) => pure (lo, (-1 : Int), Builtin.Slice.slicePlaces lo hi (-1))) _ _ s
  rw [adj]
  show wpAny _ _ (pure (((its.size : Nat) : Int) - 1, (-1 : Int), Builtin.Slice.slicePlaces (((its.size : Nat) : Int) - 1) (-1) (-1))) _ _ s
  rw [pl]
  refine wpAny_pure ?_
  have no : ¬ ((((its.size : Nat) : Int) - 1 == 0 && (-1 : Int) == 1 && its.size == its.size) = true) := by
    intro q
    rw [Bool.and_eq_true, Bool.and_eq_true] at q
    exact absurd q.1.2 (by decide)
  show wpAny _ _ (if (((its.size : Nat) : Int) - 1 == 0 && (-1 : Int) == 1 && its.size == its.size) = true then _ else _) _ _ s
  rw [if_neg no, back_pick]
  first
    | exact wpAny_bind (m := Builtin.Tuple.tupleExact _) (wpAny_newObj_type (wpAny_pure ⟨_, rfl, wpAny_pure h⟩) fits)
    | exact wpAny_bind (m := Builtin.Tuple.tupleExact _) (wpAny_newObj_type (wpAny_bind (wpAny_pure (wpAny_pure ⟨_, rfl, wpAny_pure h⟩))) fits)
    | exact wpAny_bind (wpAny_bind (m := Builtin.Tuple.tupleExact _) (wpAny_newObj_type (wpAny_pure (wpAny_pure ⟨_, rfl, wpAny_pure h⟩)) fits))
    | exact wpAny_bind (wpAny_bind (m := Builtin.Tuple.tupleExact _) (wpAny_newObj_type (wpAny_pure ⟨_, rfl, wpAny_pure h⟩) fits))
end
def tRev2 (K : PySem.W.Frag) (te : TE) : TE := fun σ H Q => te σ H fun x H1 => ∃ a xs, x = .ref a ∧ ((SqL K H1 a xs ∧ ∀ p, H1 p = none → Q (.ref p) (upd H1 p (.lst xs.reverse))) ∨ (SqT K H1 a xs ∧ ∀ p, H1 p = none → Q (.ref p) (upd H1 p (.tup xs.reverse))))
theorem pe_rev2 {X : Cx} {e : Expr} {te : TE} {k : Nat} {p1 p2 p3 pos : Pos} (he : PE X e te) : PE X (.Subscript e (.Slice none none (some (.UnaryOp .USub (.Constant (.int 1) k p1) p2)) p3) pos) (tRev2 X.K te) := by
  refine ⟨fun pins s σ H Q I h => ?_⟩
  refine Subscript_ (thn (he.run pins s σ H _ I h) fun v s1 got => ?_)
  obtain ⟨x, H1, J1, rx, a, xs, rfl, q⟩ := got
  cases rx
  have step : PO X (some (.UnaryOp .USub (.Constant (.int 1) k p1) p2)) (tPart (tUn (rU fun i => .int (-i)) (tC (.int 1)))) := po_some (pe_un un_neg pe_int)
  refine wpAny_Slice (thn (po_none.run pins s1 σ H1 (fun o H2 => o = none ∧ H2 = H1) J1 ⟨rfl, rfl⟩) fun w1 s2 g1 => ?_)
  obtain ⟨_, _, J2, pa, rfl, rfl⟩ := g1
  refine thn (po_none.run pins s2 σ _ (fun o H3 => o = none ∧ H3 = _) J2 ⟨rfl, rfl⟩) fun w2 s3 g2 => ?_
  obtain ⟨_, _, J3, pb, rfl, rfl⟩ := g2
  refine thn (step.run pins s3 σ _ (fun o H4 => o = some (-1) ∧ H4 = _) J3 ⟨1, rfl, -1, rfl, rfl, rfl⟩) fun w3 s4 g3 => ?_
  obtain ⟨_, _, J4, pc, rfl, rfl⟩ := g3
  have J5 : Inv X pins σ _ { s4 with heap := s4.heap.push { cls := .type "slice", data := .fields #[w1, w2, w3] } } := J4.kept (t' := s4.toks) fun b ob z => Heap.get?_push_of_some _ z
  show wpAny _ _ (subscriptTail e _ (.ref a) (.ref s4.heap.objs.size)) _ _ _
  rcases q with ⟨hx, q⟩ | ⟨hx, q⟩
  · obtain ⟨its, r, ht, hz⟩ := J5.list hx
    have hlen := r.length
    refine tail_any (ops := [.ref a, .ref s4.heap.objs.size]) ht.isList.typeIs (PySem.slot_list_getitem.lookup) ?_ (by with_unfolding_all rfl)
    refine wpAny_getItem_list_slice ht.isList (Heap.IsSliceOf.new _ w1 w2 w3) pa pb pc (by decide) ?_ (by rw [List.size_toArray]; omega)
    rw [PySem.W.krv_pick]
    exact ⟨.ref _, _, J5.laid (t' := s4.toks) (o := .lst xs.reverse) (fun b ob z => Heap.get?_push_of_some _ z) (Nat.le_refl _) ⟨by rw [List.length_reverse]; exact hz, _, 0, r.reverse, Heap.get?_push_size _ rfl⟩, rfl, q _ (J5.hok.fresh (Nat.le_refl _))⟩
  · obtain ⟨its, r, ht, hz⟩ := J5.tuple hx
    have hlen := r.length
    refine tail_any (ops := [.ref a, .ref s4.heap.objs.size]) ht.typeIs (PyProof.Rows.slot_tuple_getitem.lookup) ?_ (by with_unfolding_all rfl)
    cases pc with
    | int i u =>
      refine item_back ht (Heap.IsSliceOf.new _ w1 w2 _) pa pb ?_ (by rw [List.size_toArray]; omega)
      exact ⟨.ref _, _, J5.laid (t' := s4.toks) (o := .tup xs.reverse) (fun b ob z => Heap.get?_push_of_some _ z) (Nat.le_refl _) ⟨by rw [List.length_reverse]; exact hz, _, r.reverse, IsTup.new _ _⟩, rfl, q _ (J5.hok.fresh (Nat.le_refl _))⟩
end PD

set_option Elab.async false
set_option linter.all false
set_option maxRecDepth 100000
set_option maxHeartbeats 1000000
/-! Each node of the tree by its rule. -/
namespace PD
open PySem PySem.Spec PyProof.Rows L2
section
variable {X : Cx} {G : List Fn} {cl : List Addr} {W : WX} {c : Cc} {sc : Scope}
theorem Snd.val {ie : IE} {e : Expr} (h : PE X e (tE X G cl W ie)) (he : ∀ whole, isTrue e X.env whole = (do let v ← whole; standAt e.pos; holding [v] (truthy v))) (hb : isB ie = false) : Snd X G cl W ie e :=
  ⟨h, fun _ => pt_val h he, fun q => by rw [hb] at q; cases q⟩
theorem not_eq {b : Bool} (h : (!b) = true) : b = false := by simpa using h
theorem s_var {i : Nat} {e : Expr} (g : Gd X G cl W c sc) (h : chkE c sc (.var i) e = true) : Snd X G cl W (.var i) e := by
  unfold chkE at h
  split at h
  · rename_i x p
    simp only [Bool.and_eq_true] at h
    obtain ⟨⟨⟨h1, h2⟩, h3⟩, h4⟩ := h
    refine .val (PE.imp (pe_var (i := i) (g.at h1) (g.vis h2) (not_eq h3) (not_eq h4)) fun σ H Q ⟨M, env, st, S, V, ok⟩ => ?_) (fun _ => rfl) rfl
    unfold ev at ok
    split at ok
    · rename_i v hv
      obtain ⟨x, hx, r⟩ := V.at_ i v hv
      exact ⟨x, hx, ok.now S r⟩
    · exact ok.elim
  · cases h
theorem s_lit {d : PyData} {e : Expr} (h : chkE c sc (.lit d) e = true) : Snd X G cl W (.lit d) e := by
  unfold chkE at h
  split at h
  · rename_i k j p
    have now : ∀ {σ : L2.St} {H : Hp} {Q : VK} {x : V}, tE X G cl W (.lit d) σ H Q → (∀ F, Dr F x d) → Q x H := fun {σ H Q x} ⟨M, env, st, S, V, ok⟩ r => by
      unfold ev at ok
      exact ok.now S (r _)
    unfold constIs at h
    split at h
    · rename_i a b
      have e := of_decide_eq_true h
      subst e
      exact .val (PE.imp pe_int fun σ H Q q => now q fun _ => .int _) (fun _ => rfl) rfl
    · rename_i a b
      have e := eq_of_beq h
      subst e
      exact .val (PE.imp pe_bl fun σ H Q q => now q fun _ => .bl _) (fun _ => rfl) rfl
    · exact .val (PE.imp pe_non fun σ H Q q => now q fun _ => .non) (fun _ => rfl) rfl
    · rename_i a b
      have e := of_decide_eq_true h
      subst e
      exact .val (PE.imp pe_str fun σ H Q q => now q fun _ => .str _) (fun _ => rfl) rfl
    · cases h
  · cases h
theorem s_neg {a : IE} {a' : Expr} {p : Pos} (ha : Snd X G cl W a a') : Snd X G cl W (.neg a) (.UnaryOp .USub a' p) := by
  refine .val (PE.imp (pe_un un_neg ha.pe) fun σ H Q ⟨M, env, st, S, V, ok⟩ => ?_) (fun _ => rfl) rfl
  unfold ev at ok
  refine tE_step S V ok fun M1 H1 st1 x v x1 S1 r1 V1 ok1 => ?_
  split at ok1
  · cases r1
    exact ⟨_, rfl, OkE.now ok1 S1 (.int _)⟩
  · exact ok1.elim
theorem s_bin {op : Operator} {a b : IE} {a' b' : Expr} {p : Pos} (ha : Snd X G cl W a a') (hb : Snd X G cl W b b') : Snd X G cl W (.bin op a b) (.BinOp a' op b' p) := by
  refine .val (PE.imp (pe_op (opr_bin op) ha.pe hb.pe) fun σ H Q ⟨M, env, st, S, V, ok⟩ => ?_) (fun _ => rfl) rfl
  unfold ev at ok
  refine tE_step S V ok fun M1 H1 st1 x v x1 S1 r1 V1 ok1 => tE_step S1 V1 ok1 fun M2 H2 st2 y u x2 S2 r2 V2 ok2 => ?_
  split at ok2
  · rename_i d e hd he
    exact ⟨M2, st2, v, u, d, e, _, S2, ev_on r1 x2, r2, hd, he, ok2⟩
  · exact ok2.elim
theorem cmp_reads {op : CmpOp} {a b : IE} {σ : L2.St} {H : Hp} {Q : VK} (h : tE X G cl W (.cmp op a b) σ H Q) : tOp (rSt X (cmpV op)) (tE X G cl W a) (tE X G cl W b) σ H Q := by
  obtain ⟨M, env, st, S, V, ok⟩ := h
  unfold ev at ok
  exact tE_step S V ok fun M1 H1 st1 x v x1 S1 r1 V1 ok1 => tE_step S1 V1 ok1 fun M2 H2 st2 y u x2 S2 r2 V2 ok2 => ⟨M2, st2, v, u, _, S2, ev_on r1 x2, r2, ok2⟩
theorem s_cmp {op : CmpOp} {a b : IE} {a' b' : Expr} {p : Pos} (hu : X.A.units + 70 < cLine) (hm : behindInMarks op b' = false) (ha : Snd X G cl W a a') (hb : Snd X G cl W b b') : Snd X G cl W (.cmp op a b) (.Compare a' [op] [b'] p) :=
  ⟨PE.imp (pe_cmpR (op_cmpV (by omega) op) ha.pe hb.pe hm) fun σ H Q q => cmp_reads q, fun _ => PT.imp (pt_cmpR (op_cmpV (by omega) op) ha.pe hb.pe hm) fun σ H Q q => cmp_reads q, fun q => by cases q⟩
theorem chain_reads {op op' : CmpOp} {a b d : IE} {σ : L2.St} {H : Hp} {Q : VK} (h : tE X G cl W (.chain op op' a b d) σ H Q) : tChain (rSt X (cmpV op)) (rSt X (cmpV op')) (tE X G cl W a) (tE X G cl W b) (tE X G cl W d) σ H Q := by
  obtain ⟨M, env, st, S, V, ok⟩ := h
  unfold ev at ok
  refine tE_step S V ok fun M1 H1 st1 x v x1 S1 r1 V1 ok1 => tE_step S1 V1 ok1 fun M2 H2 st2 y u x2 S2 r2 V2 ok2 => ?_
  refine ⟨M2, st2, v, u, _, S2, ev_on r1 x2, r2, OkG.step ok2 fun M3 H3 st3 z t x3 S3 r3 ok3 => ?_⟩
  split at ok3
  · cases r3
    refine ⟨true, rfl, ?_⟩
    refine (if_pos rfl).mpr ?_
    exact tE_step S3 (V2.ext x3) ok3 fun M4 H4 st4 z2 t2 x4 S4 r4 V4 ok4 => ⟨M4, st4, u, t2, _, S4, ev_on r2 (x3.trans x4), r4, ok4⟩
  · cases r3
    refine ⟨false, rfl, ?_⟩
    refine (if_neg Bool.false_ne_true).mpr ?_
    exact OkE.now ok3 S3 (.bl _)
  · exact ok3.elim
theorem s_chain {op op' : CmpOp} {a b d : IE} {a' b' d' : Expr} {p : Pos} (hu : X.A.units + 70 < cLine) (hm : behindInMarks op' d' = false) (ha : Snd X G cl W a a') (hb : Snd X G cl W b b') (hd : Snd X G cl W d d') : Snd X G cl W (.chain op op' a b d) (.Compare a' [op, op'] [b', d'] p) := by
  have lm : lastMarks [op, op'] [b', d'] = false := by
    unfold lastMarks lastMarks
    exact hm
  exact ⟨PE.imp (pe_chain (op_cmpV (by omega) op) (op_cmpV (by omega) op') ha.pe hb.pe hd.pe lm) fun σ H Q q => chain_reads q, fun _ => PT.imp (pt_chain (op_cmpV (by omega) op) (op_cmpV (by omega) op') ha.pe hb.pe hd.pe lm) fun σ H Q q => chain_reads q, fun q => by cases q⟩
theorem and_reads {a b : IE} {σ : L2.St} {H : Hp} {Q : VK} (h : tE X G cl W (.and a b) σ H Q) : tAndV (tE X G cl W a) (tE X G cl W b) σ H Q := by
  obtain ⟨M, env, st, S, V, ok⟩ := h
  unfold ev at ok
  refine tE_step S V ok fun M1 H1 st1 x v x1 S1 r1 V1 ok1 => ?_
  split at ok1
  · cases r1
    exact ⟨true, rfl, (if_pos rfl).mpr ⟨M1, env, st1, S1, V1, ok1⟩⟩
  · cases r1
    exact ⟨false, rfl, (if_neg Bool.false_ne_true).mpr (OkE.now ok1 S1 (.bl _))⟩
  · exact ok1.elim
theorem or_reads {a b : IE} {σ : L2.St} {H : Hp} {Q : VK} (h : tE X G cl W (.or a b) σ H Q) : tOrV (tE X G cl W a) (tE X G cl W b) σ H Q := by
  obtain ⟨M, env, st, S, V, ok⟩ := h
  unfold ev at ok
  refine tE_step S V ok fun M1 H1 st1 x v x1 S1 r1 V1 ok1 => ?_
  split at ok1
  · cases r1
    exact ⟨false, rfl, (if_neg Bool.false_ne_true).mpr ⟨M1, env, st1, S1, V1, ok1⟩⟩
  · cases r1
    exact ⟨true, rfl, (if_pos rfl).mpr (OkE.now ok1 S1 (.bl _))⟩
  · exact ok1.elim
/-- readings are monotone -/
theorem tE.mono {e : IE} {σ : L2.St} {H : Hp} {Q Q' : VK} (h : tE X G cl W e σ H Q) (i : ∀ x H', Q x H' → Q' x H') : tE X G cl W e σ H Q' := by
  obtain ⟨M, env, st, S, V, ok⟩ := h
  exact ⟨M, env, st, S, V, OkG.imp ok i fun _ _ z => z⟩
theorem s_and {a b : IE} {a' b' : Expr} {r : List Expr} {p : Pos} (ia : isIf a = false) (ib : isB b = true) (ha : Snd X G cl W a a') (hb : Snd X G cl W b (.BoolOp .And (b' :: r) p)) : Snd X G cl W (.and a b) (.BoolOp .And (a' :: b' :: r) p) := by
  have pw : PW X (.BoolOp .And (a' :: b' :: r) p) (tB (tE X G cl W (.and a b))) := PW.imp (pw_and (ha.pt ia) (hb.pw ib)) fun σ H Q q => by
    refine tE.mono (and_reads q) fun x H1 ⟨k, e, z⟩ => ⟨k, e, ?_⟩
    cases k with
    | true => exact z
    | false =>
      have z : ∃ c, V.bl false = .bl c ∧ Q c H1 := z
      obtain ⟨c, e, z⟩ := z
      cases e
      exact z
  exact ⟨PE.imp (pe_and ha.pe hb.pe) fun σ H Q q => and_reads q, fun _ => pw.pt, fun _ => pw⟩
theorem s_or {a b : IE} {a' b' : Expr} {r : List Expr} {p : Pos} (ia : isIf a = false) (ib : isB b = true) (ha : Snd X G cl W a a') (hb : Snd X G cl W b (.BoolOp .Or (b' :: r) p)) : Snd X G cl W (.or a b) (.BoolOp .Or (a' :: b' :: r) p) := by
  have pw : PW X (.BoolOp .Or (a' :: b' :: r) p) (tB (tE X G cl W (.or a b))) := PW.imp (pw_or (ha.pt ia) (hb.pw ib)) fun σ H Q q => by
    refine tE.mono (or_reads q) fun x H1 ⟨k, e, z⟩ => ⟨k, e, ?_⟩
    cases k with
    | false => exact z
    | true =>
      have z : ∃ c, V.bl true = .bl c ∧ Q c H1 := z
      obtain ⟨c, e, z⟩ := z
      cases e
      exact z
  exact ⟨PE.imp (pe_or ha.pe hb.pe) fun σ H Q q => or_reads q, fun _ => pw.pt, fun _ => pw⟩
theorem s_one {a : IE} {a' : Expr} {op : PySem.BoolOp} {p : Pos} (ia : isIf a = false) (ha : Snd X G cl W a a') : Snd X G cl W (.one a) (.BoolOp op [a'] p) := by
  have same : ∀ {σ : L2.St} {H : Hp} {Q : VK}, tE X G cl W (.one a) σ H Q → tE X G cl W a σ H Q := fun {σ H Q} ⟨M, env, st, S, V, ok⟩ => by
    unfold ev at ok
    exact ⟨M, env, st, S, V, ok⟩
  have pw : PW X (.BoolOp op [a'] p) (tB (tE X G cl W (.one a))) := by
    cases op
    · exact PW.imp (pw_and1 (ha.pt ia)) fun σ H Q q => same q
    · exact PW.imp (pw_or1 (ha.pt ia)) fun σ H Q q => same q
  exact ⟨PE.imp (pe_one ha.pe) fun σ H Q q => same q, fun _ => pw.pt, fun _ => pw⟩
theorem not_reads {a : IE} {σ : L2.St} {H : Hp} {Q : VK} (h : tE X G cl W (.not a) σ H Q) : tNotV (tE X G cl W a) σ H Q := by
  obtain ⟨M, env, st, S, V, ok⟩ := h
  unfold ev at ok
  refine tE_step S V ok fun M1 H1 st1 x v x1 S1 r1 V1 ok1 => ?_
  split at ok1
  · cases r1
    exact ⟨_, rfl, OkE.now ok1 S1 (.bl _)⟩
  · exact ok1.elim
theorem s_not {a : IE} {a' : Expr} {p : Pos} (ia : isIf a = false) (ha : Snd X G cl W a a') : Snd X G cl W (.not a) (.UnaryOp .Not a' p) := by
  refine ⟨PE.imp (pe_not ha.pe) fun σ H Q q => not_reads q, fun _ => PT.imp (pt_not (ha.pt ia)) fun σ H Q q => ?_, fun q => by cases q⟩
  refine tE.mono (not_reads q) fun x H1 ⟨k, e, z⟩ => ⟨k, e, ?_⟩
  obtain ⟨c, e, z⟩ := z
  cases e
  exact z
theorem s_ite {t a b : IE} {t' a' b' : Expr} {p : Pos} (it : isIf t = false) (ht : Snd X G cl W t t') (ha : Snd X G cl W a a') (hb : Snd X G cl W b b') : Snd X G cl W (.ite t a b) (.IfExp t' a' b' p) := by
  refine ⟨PE.imp (pe_ifExp (ht.pt it) ha.pe hb.pe) fun σ H Q ⟨M, env, st, S, V, ok⟩ => ?_, fun q => (by cases q), fun q => (by cases q)⟩
  unfold ev at ok
  refine tE_step S V ok fun M1 H1 st1 x v x1 S1 r1 V1 ok1 => ?_
  split at ok1
  · cases r1
    exact ⟨true, rfl, (if_pos rfl).mpr ⟨M1, env, st1, S1, V1, ok1⟩⟩
  · cases r1
    exact ⟨false, rfl, (if_neg Bool.false_ne_true).mpr ⟨M1, env, st1, S1, V1, ok1⟩⟩
  · exact ok1.elim
/-! ### displays -/
theorem evs_len : ∀ (es : IA) {env : Env} {st st' : Store} {vs : List EV}, evs G es env st = .ok vs st' → vs.length = lenA es
  | .nil, env, st, st', vs, h => by
    unfold evs at h
    cases h
    rfl
  | .cons e es, env, st, st', vs, h => by
    unfold evs at h
    cases h1 : ev G e env st with
    | ok x st1 =>
      rw [h1] at h
      cases h2 : evs G es env st1 with
      | ok xs st2 =>
        have h : (evs G es env st1).bind (fun xs st2 => R.ok (x :: xs) st2) = .ok vs st' := h
        rw [h2] at h
        cases h
        rw [List.length_cons, evs_len es h2]
        rfl
      | exc _ _ =>
        have h : (evs G es env st1).bind (fun xs st2 => R.ok (x :: xs) st2) = .ok vs st' := h
        rw [h2] at h
        cases h
      | err =>
        have h : (evs G es env st1).bind (fun xs st2 => R.ok (x :: xs) st2) = .ok vs st' := h
        rw [h2] at h
        cases h
    | exc _ _ => rw [h1] at h; cases h
    | err => rw [h1] at h; cases h
theorem tA_stepL {α β : Type} {rel : List Addr → Hp → β → α → Prop} {a : IA} {σ : L2.St} {M : List Addr} {H : Hp} {env : Env} {st : Store} {k : List EV → Store → R α} {Q : β → Hp → Prop} {Q' : List V → Hp → Prop} (S : SR X M H st) (V : EnvR (Fz M H) M env σ)
    (ok : OkG X.prog X.w rel M H ((evs G a env st).bind k) Q (wX cl W σ))
    (hq : ∀ M1 H1 st1 x v, Ext M H M1 H1 → SR X M1 H1 st1 → relA M1 H1 x v → EnvR (Fz M1 H1) M1 env σ → x.length = lenA a → OkG X.prog X.w rel M1 H1 (k v st1) Q (wX cl W σ) → Q' x H1) : tA X G cl W a σ H Q' := by
  refine ⟨M, env, st, S, V, ?_⟩
  cases e : evs G a env st with
  | ok v st1 =>
    rw [e] at ok
    exact fun M' H' x xx S' r => hq M' H' st1 x v xx S' r (V.ext xx) (by rw [Paired.length r, evs_len a e]) (OkG.ext xx ok)
  | exc k st1 => rw [e] at ok; exact ok
  | err => rw [e] at ok; exact ok
theorem dats_rel {M : List Addr} {H : Hp} : ∀ {vs : List EV} {ds : List PyData} {xs : List V}, dats vs = some ds → relA M H xs vs → Drs (Fz M H) xs ds
  | [], ds, xs, h, r => by
    cases h
    cases r
    exact .nil
  | .dat d :: vs, ds, xs, h, r => by
    unfold dats at h
    split at h
    · rename_i es he
      cases h
      cases r with
      | cons r1 r2 => exact .cons r1 (dats_rel he r2)
    · cases h
  | .loc n :: vs, ds, xs, h, r => by cases h
theorem thousand {n : Nat} (h : n ≤ 1000) : n ≤ sizeLine := by
  rw [sizeLine_eq]
  omega
theorem s_tup {es : IA} {es' : List Expr} {k : Nat} {p : Pos} (hl : lenA es ≤ 1000) (ha : PA X es' (tA X G cl W es)) : Snd X G cl W (.tup es) (.Tuple es' k p) := by
  refine .val (PE.imp (pe_tup ha) fun σ H Q ⟨M, env, st, S, V, ok⟩ => ?_) (fun _ => rfl) rfl
  unfold ev at ok
  refine tA_stepL S V ok fun M1 H1 st1 xs vs x1 S1 r1 V1 len ok1 => ⟨by rw [len]; exact thousand hl, fun p hp => ?_⟩
  split at ok1
  · rename_i ds hd
    exact OkE.newT ok1 S1 (dats_rel hd r1) p hp
  · exact ok1.elim
theorem s_lst {es : IA} {es' : List Expr} {p : Pos} (hl : lenA es ≤ 1000) (ha : PA X es' (tA X G cl W es)) : Snd X G cl W (.lst es) (.List es' p) := by
  refine .val (PE.imp (pe_lst ha) fun σ H Q ⟨M, env, st, S, V, ok⟩ => ?_) (fun _ => rfl) rfl
  unfold ev at ok
  refine tA_stepL S V ok fun M1 H1 st1 xs vs x1 S1 r1 V1 len ok1 => ⟨by rw [len]; exact thousand hl, fun p hp => ?_⟩
  split at ok1
  · rename_i ds hd
    exact OkE.newL ok1 S1 (dats_rel hd r1) p hp
  · exact ok1.elim
theorem s_newL {es : IA} {es' : List Expr} {p : Pos} (hl : lenA es ≤ 1000) (ha : PA X es' (tA X G cl W es)) : Snd X G cl W (.newL es) (.List es' p) := by
  refine .val (PE.imp (pe_lst ha) fun σ H Q ⟨M, env, st, S, V, ok⟩ => ?_) (fun _ => rfl) rfl
  unfold ev at ok
  refine tA_stepL S V ok fun M1 H1 st1 xs vs x1 S1 r1 V1 len ok1 => ⟨by rw [len]; exact thousand hl, fun p hp => ?_⟩
  split at ok1
  · rename_i ds hd
    exact OkE.cellL ok1 S1 (dats_rel hd r1) p hp
  · exact ok1.elim
theorem s_newD {p : Pos} : Snd X G cl W .newD (.Dict [] [] p) := by
  refine .val (PE.imp pe_newD fun σ H Q ⟨M, env, st, S, V, ok⟩ => ?_) (fun _ => rfl) rfl
  unfold ev at ok
  exact fun p hp => ok.cellD S p hp
/-! ### subscripts -/
theorem s_ix {a i : IE} {a' i' : Expr} {p : Pos} (hu : X.A.units + 70 < cLine) (hs : noSlc i' = true) (ha : Snd X G cl W a a') (hi : Snd X G cl W i i') : Snd X G cl W (.ix a i) (.Subscript a' i' p) := by
  refine .val (PE.imp (pe_ix (ix_all (by omega)) ha.pe hi.pe (plain_ix hs)) fun σ H Q ⟨M, env, st, S, V, ok⟩ => ?_) (fun _ => rfl) rfl
  unfold ev at ok
  exact tE_step S V ok fun M1 H1 st1 x v x1 S1 r1 V1 ok1 => tE_step S1 V1 ok1 fun M2 H2 st2 y u x2 S2 r2 V2 ok2 => ⟨M2, st2, v, u, _, S2, ev_on r1 x2, r2, ok2⟩
theorem s_slc {a : IE} {lo hi : IO} {a' : Expr} {lo' hi' : Option Expr} {p p2 : Pos} (ha : Snd X G cl W a a') (hl : PO X lo' (tO X G cl W lo)) (hh : PO X hi' (tO X G cl W hi)) : Snd X G cl W (.slc a lo hi) (.Subscript a' (.Slice lo' hi' none p2) p) := by
  refine .val (PE.imp (pe_slice slr_cut ha.pe hl hh) fun σ H Q ⟨M, env, st, S, V, ok⟩ => ?_) (fun _ => rfl) rfl
  unfold ev at ok
  refine tE_step S V ok fun M1 H1 st1 x v x1 S1 r1 V1 ok1 => tO_step S1 V1 ok1 fun M2 H2 st2 l x2 S2 V2 ok2 => tO_step S2 V2 ok2 fun M3 H3 st3 h x3 S3 V3 ok3 => ?_
  split at ok3
  · rename_i d hd
    exact ⟨M3, st3, v, d, _, S3, ev_on r1 (x2.trans x3), hd, ok3⟩
  · exact ok3.elim
theorem s_rev {a : IE} {a' : Expr} {k : Nat} {p p1 p2 p3 : Pos} (ha : Snd X G cl W a a') : Snd X G cl W (.rev a) (.Subscript a' (.Slice none none (some (.UnaryOp .USub (.Constant (.int 1) k p1) p2)) p3) p) := by
  refine .val (PE.imp (pe_rev2 ha.pe) fun σ H Q ⟨M, env, st, S, V, ok⟩ => ?_) (fun _ => rfl) rfl
  unfold ev at ok
  refine tE_step S V ok fun M1 H1 st1 x v x1 S1 r1 V1 ok1 => ?_
  split at ok1
  · rename_i d hd
    have t := rd_top S1 r1 hd
    cases d with
    | list ds =>
      obtain ⟨b, xs, rfl, h1, h2⟩ := t.list
      exact ⟨b, xs, rfl, .inl ⟨.inl h1, fun p hp => OkE.newL ok1 S1 h2.reverse p hp⟩⟩
    | tuple ds =>
      obtain ⟨b, xs, rfl, h1, h2⟩ := t.tuple
      exact ⟨b, xs, rfl, .inr ⟨SqT.of (Fz_sub _ _ h1), fun p hp => OkE.newT ok1 S1 h2.reverse p hp⟩⟩
    | _ => exact (show False from ok1).elim
  · exact ok1.elim
/-! ### calls -/
theorem args_back {es : List Expr} {env : PySem.Env} {pos : Pos} (h : es.all unst = true) : (backTo pos (starEach es env)).any (·.1) = false := by
  induction es with
  | nil => rfl
  | cons e r ih =>
    simp only [List.all_cons, Bool.and_eq_true] at h
    rw [star_cons h.1]
    show (false || (backTo pos (starEach r env)).any (·.1)) = false
    rw [ih h.2]
    rfl
theorem chkA_unst : ∀ (es : IA) (es' : List Expr), chkA c sc es es' = true → es'.all unst = true ∧ es'.length = lenA es
  | .nil, es', h => by
    unfold chkA at h
    split at h
    · exact ⟨rfl, rfl⟩
    · cases h
  | .cons e es, es', h => by
    unfold chkA at h
    split at h
    · simp only [Bool.and_eq_true] at h
      obtain ⟨h1, h2⟩ := chkA_unst es _ h.2
      rw [List.all_cons, h.1.1, h1, List.length_cons, h2]
      exact ⟨rfl, rfl⟩
    · cases h
theorem sp_ok {f : Fn} {M : List Addr} {H : Hp} {st : Store} {xs : List V} {vs : List EV} {Q : VK} {σ : L2.St} (S : SR X M H st) (r : relA M H xs vs) (hl : vs.length = f.ar) (ok : OkX X M H (f.den vs st) Q (wX cl W σ)) : SpOf X.prog X.w cl f xs H Q (WE W σ) := ⟨M, st, vs, S, r, hl, ok⟩
theorem call_ok {f : Nat} {e : Fn} (hf : G[f]? = some e) {M : List Addr} {H : Hp} {st : Store} {xs : List V} {vs : List EV} {Q : VK} {σ : L2.St} (S : SR X M H st) (r : relA M H xs vs) (ok : OkX X M H (callF G f vs st) Q (wX cl W σ)) : SpOf X.prog X.w cl e xs H Q (WE W σ) := by
  unfold callF at ok
  rw [hf] at ok
  dsimp only at ok
  split at ok
  · rename_i hl
    exact sp_ok S r hl ok
  · exact ok.elim
theorem s_call {f : Nat} {es : IA} {x : Str} {e1 : Expr} {r : List Expr} {p pos : Pos} (g : Gd X G cl W c sc) (hx : c.fns[f]? = some x) (hg : isGl sc x = true) (hd : (x == ("__debug__" : Str)) = false) (hu : (e1 :: r).all unst = true) (ha : PA X (e1 :: r) (tA X G cl W es)) :
    Snd X G cl W (.call f es) (.Call (.Name x p) (e1 :: r) [] pos) := by
  obtain ⟨e, he, hn, ⟨k, fa, fd, ps, F, room, mg, kp, bd⟩⟩ := g.fns f x hx
  subst hn
  simp only [List.all_cons, Bool.and_eq_true] at hu
  refine .val (PE.imp (pe_callS F room (g.gl hg) mg kp bd (fun σ => L2N.passAt g.tk σ) ha hd (star_cons hu.1) (args_back hu.2)) fun σ H Q ⟨M, env, st, S, V, ok⟩ => ?_) (fun _ => rfl) rfl
  unfold ev at ok
  exact tA_step S V ok fun M1 H1 st1 xs vs x1 S1 r1 V1 ok1 => call_ok he S1 r1 ok1
theorem s_call0 {f : Nat} {x : Str} {p pos : Pos} (g : Gd X G cl W c sc) (hx : c.fns[f]? = some x) (hg : isGl sc x = true) (hd : (x == ("__debug__" : Str)) = false) : Snd X G cl W (.call f .nil) (.Call (.Name x p) [] [] pos) := by
  obtain ⟨e, he, hn, ⟨k, fa, fd, ps, F, room, mg, kp, bd⟩⟩ := g.fns f x hx
  subst hn
  refine .val ⟨fun pins s σ H Q I ⟨M, env, st, S, V, ok⟩ => ?_⟩ (fun _ => rfl) rfl
  unfold ev evs at ok
  have sp := call_ok he S (xs := []) .nil ok
  refine wpAny_Call_Name_kw (ld_glob I (g.gl hg) mg ?_ hd)
  exact PySem.W.callWith_K0 I.kIn kp (run_fnS F room bd (L2N.passAt g.tk σ) I .nil sp)
theorem s_blt {b : Blt} {es : IA} {x : Str} {e1 : Expr} {r : List Expr} {p pos : Pos} (g : Gd X G cl W c sc) (hb : ∀ _ : Unit, b ≠ .lenSet) (hx : x = bltN b) (hg : isGl sc x = true) (hu : (e1 :: r).all unst = true) (ha : PA X (e1 :: r) (tA X G cl W es)) :
    Snd X G cl W (.blt b es) (.Call (.Name x p) (e1 :: r) [] pos) := by
  subst hx
  simp only [List.all_cons, Bool.and_eq_true] at hu
  have cr := cr_blt g.calm g.hu b hb
  have reads : ∀ {σ : L2.St} {H : Hp} {Q : VK}, tE X G cl W (.blt b es) σ H Q → tCB (rBlt X (bltD b)) (tA X G cl W es) σ H Q := fun {σ H Q} ⟨M, env, st, S, V, ok⟩ => by
    unfold ev at ok
    refine tA_step S V ok fun M1 H1 st1 xs vs x1 S1 r1 V1 ok1 => ?_
    split at ok1
    · rename_i ds hd
      exact ⟨M1, st1, vs, ds, _, S1, r1, hd, ok1⟩
    · exact ok1.elim
  have mg : X.mg (bltN b) = none := g.blt _ (by cases b <;> decide +kernel)
  have nn : bltN b ≠ "__name__" := by cases b <;> decide +kernel
  have nd : (bltN b == ("__debug__" : Str)) = false := by cases b <;> decide +kernel
  refine .val ?_ (fun _ => rfl) rfl
  cases b with
  | len => exact PE.imp (pe_callB cr (g.gl hg) mg (by decide +kernel) ha nn nd (star_cons hu.1) (args_back hu.2)) fun σ H Q q => reads q
  | tuple => exact PE.imp (pe_callTy cr (g.gl hg) mg (by decide +kernel) ha nn nd (star_cons hu.1) (args_back hu.2)) fun σ H Q q => reads q
  | sorted => exact PE.imp (pe_callB cr (g.gl hg) mg (by decide +kernel) ha nn nd (star_cons hu.1) (args_back hu.2)) fun σ H Q q => reads q
  | list => exact PE.imp (pe_callTy cr (g.gl hg) mg (by decide +kernel) ha nn nd (star_cons hu.1) (args_back hu.2)) fun σ H Q q => reads q
  | sum => exact PE.imp (pe_callB cr (g.gl hg) mg (by decide +kernel) ha nn nd (star_cons hu.1) (args_back hu.2)) fun σ H Q q => reads q
  | all => exact PE.imp (pe_callB cr (g.gl hg) mg (by decide +kernel) ha nn nd (star_cons hu.1) (args_back hu.2)) fun σ H Q q => reads q
  | str => exact PE.imp (pe_callTy cr (g.gl hg) mg (by decide +kernel) ha nn nd (star_cons hu.1) (args_back hu.2)) fun σ H Q q => reads q
  | int => exact PE.imp (pe_callTy cr (g.gl hg) mg (by decide +kernel) ha nn nd (star_cons hu.1) (args_back hu.2)) fun σ H Q q => reads q
  | min2 => exact PE.imp (pe_callB cr (g.gl hg) mg (by decide +kernel) ha nn nd (star_cons hu.1) (args_back hu.2)) fun σ H Q q => reads q
  | maxL => exact PE.imp (pe_callB cr (g.gl hg) mg (by decide +kernel) ha nn nd (star_cons hu.1) (args_back hu.2)) fun σ H Q q => reads q
  | minD => exact PE.imp (pe_callB cr (g.gl hg) mg (by decide +kernel) ha nn nd (star_cons hu.1) (args_back hu.2)) fun σ H Q q => reads q
  | lenSet => exact absurd rfl (hb ())
end
end PD

set_option Elab.async false
set_option linter.all false
set_option maxRecDepth 100000
set_option maxHeartbeats 1000000
/-! {k: b}: a dict of one key. -/
namespace PD
open PySem PySem.Spec PyProof.Rows L2
section
variable {X : Cx} {G : List Fn} {cl : List Addr} {W : WX} {c : Cc} {sc : Scope}
def tD1 (X : Cx) (i : Nat) (b : Bool) : TE := fun σ H Q => ∃ (a : Addr) (k : PyData), σ[i]? = some (some (.ref a)) ∧ tupKey k = true ∧ Dr H (.ref a) k ∧ ∀ p, H p = none → Q (.ref p) (upd H p (DictO X.prog X.w p [(nkey k, a, .bool b)]))
theorem pe_newD1 {i j : Nat} {b : Bool} {x : Str} {p1 p2 pos : Pos} (hu : X.A.units + 70 < cLine) (hN : X.N[i]? = some x) (hv : Vis X.env.scope x) (h1 : (x == ("__debug__" : Str)) = false) (h2 : (x == ("__classdict__" : Str)) = false) :
    PE X (.Dict [some (.Name x p1)] [.Constant (.bool b) j p2] pos) (tD1 X i b) := by
  refine ⟨fun pins s σ H Q I ⟨a, k, hσ, hk, dk, q⟩ => ?_⟩
  have pk : PE X (.Name x p1) (tVar i) := pe_var hN hv h1 h2
  have pv : PE X (.Constant (.bool b) j p2) (tC (.bl b)) := pe_bl
  have hn := I.hok.fresh (Nat.le_refl s.heap.objs.size)
  have sm : (s.heap.objs.size == sysModules) = false := beq_eq_false_iff_ne.mpr (Ne.symm (Nat.ne_of_lt I.big))
  have new0 : ObjOk X.prog X.w (upd H s.heap.objs.size (DictO X.prog X.w s.heap.objs.size [])) (s.heap.push { cls := .type "dict", data := .dict #[] }) s.heap.objs.size (DictO X.prog X.w s.heap.objs.size []) :=
    dict_new (Heap.DictOfH.new s.heap) sm (Nat.zero_le _)
  have I1 := I.laid (t' := s.toks) (fun _ _ q => Heap.get?_push_of_some _ q) (Nat.le_refl _) new0
  have room : (nestedKind X.prog X.w).room X.A := by
    show X.A.units + 8 < cLine
    omega
  rw [arm_eval_Dict, show (evalEachOpt [some (.Name x p1)] X.env).zip ((evalEach [.Constant (.bool b) j p2] X.env).map fun v => do let x ← v; standAt pos; pure x) = (pairTrees [some (.Name x p1)] [.Constant (.bool b) j p2] X.env pos).map (fun p => (some p.1, p.2)) from rfl]
  rw [dictDisplay_pairs _ (by exact List.cons_ne_nil _ _) (by show (1 : Nat) < 17; decide)]
  refine wpAny_bind (wpAny_standAt (wpAny_bind (wpAny_subDictH (knd := nestedKind X.prog X.w) (Q := fun d s' => wpAny (model X.prog X.w) X.A (pure (Value.ref d)) (EP X pins σ Q) X.xe s') room (by show 1 ≤ 15; omega) ?_)))
  refine thn ((pps_cons pk pv pps_nil).run pins _ σ _ (fun ps H2 => ps = [(.ref a, .bl b)] ∧ H2 = upd H s.heap.objs.size (DictO X.prog X.w s.heap.objs.size [])) I1 ⟨_, hσ, rfl, rfl⟩) fun ws s2 ⟨ps, H2, I2, rel, e1, e2⟩ => ?_
  subst e1 e2
  cases rel with
  | @cons _ kv _ ws' r1 r2 =>
    obtain ⟨w1, w2⟩ := kv
    cases r2
    obtain ⟨ra, rb⟩ := r1
    cases ra
    cases rb
    have sb : Sub H (upd H s.heap.objs.size (DictO X.prog X.w s.heap.objs.size [])) := fun c o h => by rw [upd_ne (ne_of_none h hn)]; exact h
    have ki := key_is I2.hok hk (Dr.sub sb _ _ dk)
    have dd0 := (dict_of (F := H) I2.hok (a := s.heap.objs.size) (xs := []) upd_same (kvs := []) .nil sb).1
    refine ⟨[(nkey k, a, .bool b)], ⟨rfl, rfl, ki, True.intro⟩, dd0, fun h' tk dd same => wpAny_pure ?_⟩
    have there : ∃ z, h'.get? s.heap.objs.size = some z := by
      obtain ⟨z, _, _, g, _⟩ := dd
      exact ⟨z, g⟩
    have new1 := dict_new (P := X.prog) (w := X.w) (H := upd (upd H s.heap.objs.size (DictO X.prog X.w s.heap.objs.size [])) s.heap.objs.size (DictO X.prog X.w s.heap.objs.size [(nkey k, a, .bool b)])) dd sm (by show 1 ≤ sizeLine; decide)
    have J := I2.write (t' := tk) (x := s.heap.objs.size) (e := s.heap.objs.size) (by rw [upd_same]; exact True.intro) (.inl rfl) (fun c z nc g => (same.2 c nc).trans g) there new1
    rw [upd_upd] at J
    exact ⟨.ref s.heap.objs.size, _, J, rfl, q _ hn⟩
theorem s_newD1 {i j : Nat} {b : Bool} {x : Str} {p1 p2 pos : Pos} (g : Gd X G cl W c sc) (h1 : slot c i x = true) (h2 : isLoc sc x = true) (h3 : (x == ("__debug__" : Str)) = false) (h4 : (x == ("__classdict__" : Str)) = false) :
    Snd X G cl W (.newD1 (.var i) (.lit (.bool b))) (.Dict [some (.Name x p1)] [.Constant (.bool b) j p2] pos) := by
  refine .val (PE.imp (pe_newD1 g.hu (g.at h1) (g.vis h2) h3 h4) fun σ H Q ⟨M, env, st, S, V, ok⟩ => ?_) (fun _ => rfl) rfl
  have e : ev G (.newD1 (.var i) (.lit (.bool b))) env st = (match env[i]? with
    | some (some v) => (match v with
      | .dat a => if tupKey a then .ok (.loc st.length) (st ++ [.dict [(a, .bool b)]]) else .err
      | _ => .err)
    | _ => .err) := by
    unfold ev ev
    cases h : env[i]? with
    | none => rfl
    | some o =>
      cases o with
      | none => rfl
      | some v => cases v <;> rfl
  rw [e] at ok
  split at ok
  · rename_i v hv
    split at ok
    · rename_i a
      split at ok
      · rename_i hk
        obtain ⟨y, hy, r⟩ := V.at_ i _ hv
        obtain ⟨ad, rfl⟩ := key_ref hk r
        refine ⟨ad, a, hy, hk, Dr.sub Fz_sub _ _ r, fun p hp => ?_⟩
        have xx : Ext M H (M ++ [p]) (upd H p (DictO X.prog X.w p [(nkey a, ad, .bool b)])) := Ext.cell hp
        refine ok _ _ _ xx (S.push hp ⟨_, upd_same, .cons ⟨hk, rfl, Dr.sub xx.fz _ _ r, .bl b, rfl, .bl b⟩ .nil⟩) ⟨p, ?_, rfl⟩
        rw [← S.len, List.getElem?_append_right (Nat.le_refl _), Nat.sub_self]
        rfl
      · exact ok.elim
    · exact ok.elim
  · exact ok.elim
end
end PD

set_option Elab.async false
set_option linter.all false
set_option maxRecDepth 100000
set_option maxHeartbeats 1000000
/-! The other nodes, and all of them together. -/
namespace PD
open PySem PySem.Spec PyProof.Rows L2
section
variable {X : Cx} {G : List Fn} {cl : List Addr} {W : WX} {c : Cc} {sc : Scope}
theorem s_lenSet {es : IA} {e2 : Expr} {p q p2 q2 : Pos} (g : Gd X G cl W c sc) (hg : isGl sc "len" = true) (hg2 : isGl sc "set" = true) {a : IE} (ea : es = .cons a .nil) (hu : unst e2 = true) (ha : Snd X G cl W a e2) :
    Snd X G cl W (.blt .lenSet es) (.Call (.Name "len" p) [.Call (.Name "set" p2) [e2] [] q2] [] q) := by
  subst ea
  refine .val (PE.imp (pe_setLen (g.gl hg) (g.blt _ (by decide +kernel)) (g.gl hg2) (g.blt _ (by decide +kernel)) ha.pe g.calm (star_cons hu)) fun σ H Q ⟨M, env, st, S, V, ok⟩ => ?_) (fun _ => rfl) rfl
  unfold ev evs evs at ok
  refine ⟨M, env, st, S, V, ?_⟩
  cases e : ev G a env st with
  | err => rw [e] at ok; exact ok
  | exc k st1 => rw [e] at ok; exact ok
  | ok v st1 =>
    rw [e] at ok
    have ok : OkX X M H (match rds st1 [v] with
      | some ds => ofO st1 (bltD .lenSet ds)
      | none => .err) Q (wX cl W σ) := ok
    intro M1 H1 x xx S1 r
    split at ok
    · rename_i ds hd
      have hl := rds_length hd
      cases ds with
      | nil => cases hl
      | cons d r1 =>
        cases r1 with
        | nil => exact ⟨M1, st1, v, d, _, S1, r, rds_one hd rfl, OkE.ext xx ok⟩
        | cons _ _ => simp at hl
    · exact ok.elim
theorem s_newLst {a : IE} {a' : Expr} {p pos : Pos} (g : Gd X G cl W c sc) (hg : isGl sc "list" = true) (hu : unst a' = true) (ha : Snd X G cl W a a') : Snd X G cl W (.newLst a) (.Call (.Name "list" p) [a'] [] pos) := by
  refine .val (PE.imp (pe_callTy cr_listC (g.gl hg) (g.blt _ (by decide +kernel)) (by decide +kernel) (pa_cons ha.pe pa_nil (star_cons hu)) (by decide +kernel) (by decide +kernel) (star_cons hu) rfl) fun σ H Q ⟨M, env, st, S, V, ok⟩ => ?_) (fun _ => rfl) rfl
  unfold ev at ok
  refine tE_step S V ok fun M1 H1 st1 x v x1 S1 r1 V1 ok1 => ?_
  split at ok1
  · rename_i d hd
    split at ok1
    · rename_i ds hq
      exact ⟨x, M1, st1, v, d, ds, _, rfl, S1, r1, hd, hq, ok1⟩
    · exact ok1.elim
  · exact ok1.elim
theorem s_dlist {a : IE} {a' : Expr} {p pos : Pos} (g : Gd X G cl W c sc) (hg : isGl sc "list" = true) (hu : unst a' = true) (ha : Snd X G cl W a a') : Snd X G cl W (.dlist a) (.Call (.Name "list" p) [a'] [] pos) := by
  refine .val (PE.imp (pe_callTy (cr_keys g.calm) (g.gl hg) (g.blt _ (by decide +kernel)) (by decide +kernel) (pa_cons ha.pe pa_nil (star_cons hu)) (by decide +kernel) (by decide +kernel) (star_cons hu) rfl) fun σ H Q ⟨M, env, st, S, V, ok⟩ => ?_) (fun _ => rfl) rfl
  unfold ev at ok
  exact tE_step S V ok fun M1 H1 st1 x v x1 S1 r1 V1 ok1 => ⟨x, M1, st1, v, _, rfl, S1, r1, ok1⟩
theorem s_isT {a : IE} {t : Ty} {a' : Expr} {p p2 pos : Pos} (g : Gd X G cl W c sc) (hg : isGl sc "isinstance" = true) (hg2 : isGl sc (tyS t) = true) (hu : unst a' = true) (ha : Snd X G cl W a a') :
    Snd X G cl W (.isT a t) (.Call (.Name "isinstance" p) [a', .Name (tyS t) p2] [] pos) := by
  have bt : bootBuiltins (tyS t) = some (.type (tyN t)) := by cases t <;> decide +kernel
  have mg : X.mg (tyS t) = none := g.blt _ (by cases t <;> decide +kernel)
  have nn : tyS t ≠ "__name__" := by cases t <;> decide +kernel
  have nd : (tyS t == ("__debug__" : Str)) = false := by cases t <;> decide +kernel
  have two : PA X [a', .Name (tyS t) p2] _ := pa_cons ha.pe (pa_cons (pe_bltn (v := .ty (tyN t)) (g.gl hg2) mg bt rfl nn nd) pa_nil) (star_cons hu)
  refine .val (PE.imp (pe_callB (cr_isT t) (g.gl hg) (g.blt _ (by decide +kernel)) (by decide +kernel) two (by decide +kernel) (by decide +kernel) (star_cons hu) rfl) fun σ H Q ⟨M, env, st, S, V, ok⟩ => ?_) (fun _ => rfl) rfl
  unfold ev at ok
  exact tE_step S V ok fun M1 H1 st1 x v x1 S1 r1 V1 ok1 => ⟨x, M1, st1, v, _, rfl, S1, r1, ok1⟩
/-! ### methods -/
def mthT : Mth → String
  | .append => "list"
  | .extend => "list"
  | .pop => "list"
  | .join => "str"
  | .split => "str"
  | .get2 => "dict"
/-- where the method is found, the value is of that type -/
theorem mth_ty {m : Mth} {o : EV} {M : List Addr} {H : Hp} {st : Store} {x : V} (hm : m ≠ .get2) (S : SR X M H st) (r : EVr (Fz M H) M x o) (ok : mthOk m o st = true) : tyV X.K (mthT m) x H := by
  have lst : isLst st o = true → tyV X.K "list" x H := fun h => by
    unfold isLst at h
    split at h
    · split at h
      · rename_i q
        obtain ⟨a, xs, rfl, m, h1, h2⟩ := cell_at S q r
        exact .inl ⟨rfl, xs, .of h1⟩
      · cases h
    · cases h
  have str : isStr o = true → tyV X.K "str" x H := fun h => by
    unfold isStr at h
    split at h
    · cases r
      exact (rfl : "str" = "str")
    · cases h
  cases m with
  | append => exact lst ok
  | extend => exact lst ok
  | pop => exact lst ok
  | join => exact str ok
  | split => exact str ok
  | get2 => exact absurd rfl hm
theorem few_args {es : List Expr} {env : PySem.Env} {pos : Pos} (h : es.all unst = true) (hl : es.length ≤ 20) :
    ((backTo pos (starEach es env)).all (fun x => !x.1) && (backToKw pos (keywordEach [] env)).all (fun x => x.1.isSome) && decide (es.length + ([] : List Keyword).length + (if ([] : List Keyword).isEmpty then 0 else 1) < 30)) = true := by
  have h1 := args_back (env := env) (pos := pos) h
  have h2 : (backTo pos (starEach es env)).all (fun x => !x.1) = true := by
    rw [List.all_eq_true]
    intro q hq
    cases e : q.1 with
    | false => rfl
    | true =>
      have : (backTo pos (starEach es env)).any (·.1) = true := List.any_eq_true.mpr ⟨q, hq, e⟩
      rw [h1] at this
      cases this
  rw [h2]
  have h3 : es.length + ([] : List Keyword).length + (if ([] : List Keyword).isEmpty then 0 else 1) < 30 := by
    show es.length + 0 + 0 < 30
    omega
  rw [decide_eq_true h3]
  rfl
theorem mth_reads {m : Mth} {o : IE} {es : IA} {σ : L2.St} {H : Hp} {Q : VK} (hm : m ≠ .get2) (h : tE X G cl W (.mth m o es) σ H Q) : tBM X.K (mthT m) (rMth X m) (tE X G cl W o) (tA X G cl W es) σ H Q := by
  obtain ⟨M, env, st, S, V, ok⟩ := h
  unfold ev at ok
  refine tE_step S V ok fun M1 H1 st1 x v x1 S1 r1 V1 ok1 => ?_
  split at ok1
  · rename_i ht
    exact ⟨mth_ty hm S1 r1 ht, tA_step S1 V1 ok1 fun M2 H2 st2 xs vs x2 S2 r2 V2 ok2 => ⟨M2, st2, v, vs, _, S2, ev_on r1 x2, r2, ok2⟩⟩
  · exact ok1.elim
theorem mth_reads0 {m : Mth} {o : IE} {σ : L2.St} {H : Hp} {Q : VK} (hm : m ≠ .get2) (h : tE X G cl W (.mth m o .nil) σ H Q) : tBM0 X.K (mthT m) (rMth X m) (tE X G cl W o) σ H Q := by
  obtain ⟨M, env, st, S, V, ok⟩ := h
  unfold ev at ok
  refine tE_step S V ok fun M1 H1 st1 x v x1 S1 r1 V1 ok1 => ?_
  split at ok1
  · rename_i ht
    unfold evs at ok1
    exact ⟨mth_ty hm S1 r1 ht, M1, st1, v, [], _, S1, r1, .nil, ok1⟩
  · exact ok1.elim
theorem s_mth {m : Mth} {o : IE} {es : IA} {o' : Expr} {es' : List Expr} {p pos : Pos} (hm : m ≠ .get2) (hn : noBare o' = true) (hl : (p.endLine == pos.line) = true) (hu : es'.all unst = true) (he : es'.length = lenA es) (hf : lenA es ≤ 20) (ho : Snd X G cl W o o') (ha : PA X es' (tA X G cl W es)) :
    Snd X G cl W (.mth m o es) (.Call (.Attribute o' (mthN m) p) es' [] pos) := by
  refine .val ?_ (fun _ => rfl) rfl
  cases es' with
  | nil =>
    cases es with
    | cons _ _ => cases he
    | nil =>
      cases m with
      | append => exact PE.imp (pe_bm0 PySem.F.plainAttrs_list PySem.F.slot_list_append PySem.F.type_list_append mtr_append ho.pe (base_attr hn) hl) fun σ H Q q => mth_reads0 hm q
      | extend => exact PE.imp (pe_bm0 PySem.F.plainAttrs_list PySem.F.slot_list_extend PySem.F.type_list_extend mtr_extend ho.pe (base_attr hn) hl) fun σ H Q q => mth_reads0 hm q
      | pop => exact PE.imp (pe_bm0 PySem.F.plainAttrs_list PySem.F.slot_list_pop PySem.F.type_list_pop mtr_pop ho.pe (base_attr hn) hl) fun σ H Q q => mth_reads0 hm q
      | join => exact PE.imp (pe_bm0 PySem.F.plainAttrs_str PySem.F.slot_str_join PySem.F.type_str_join mtr_join ho.pe (base_attr hn) hl) fun σ H Q q => mth_reads0 hm q
      | split => exact PE.imp (pe_bm0 PySem.F.plainAttrs_str PySem.F.slot_str_split PySem.F.type_str_split mtr_split ho.pe (base_attr hn) hl) fun σ H Q q => mth_reads0 hm q
      | get2 => exact absurd rfl hm
  | cons e1 r =>
    have few := few_args (env := X.env) (pos := pos) hu (by rw [he]; exact hf)
    have hu2 := hu
    simp only [List.all_cons, Bool.and_eq_true] at hu2
    cases m with
    | append => exact PE.imp (pe_bm PySem.F.plainAttrs_list PySem.F.slot_list_append PySem.F.type_list_append mtr_append ho.pe ha (base_attr hn) few hl (star_cons hu2.1) (args_back hu2.2)) fun σ H Q q => mth_reads hm q
    | extend => exact PE.imp (pe_bm PySem.F.plainAttrs_list PySem.F.slot_list_extend PySem.F.type_list_extend mtr_extend ho.pe ha (base_attr hn) few hl (star_cons hu2.1) (args_back hu2.2)) fun σ H Q q => mth_reads hm q
    | pop => exact PE.imp (pe_bm PySem.F.plainAttrs_list PySem.F.slot_list_pop PySem.F.type_list_pop mtr_pop ho.pe ha (base_attr hn) few hl (star_cons hu2.1) (args_back hu2.2)) fun σ H Q q => mth_reads hm q
    | join => exact PE.imp (pe_bm PySem.F.plainAttrs_str PySem.F.slot_str_join PySem.F.type_str_join mtr_join ho.pe ha (base_attr hn) few hl (star_cons hu2.1) (args_back hu2.2)) fun σ H Q q => mth_reads hm q
    | split => exact PE.imp (pe_bm PySem.F.plainAttrs_str PySem.F.slot_str_split PySem.F.type_str_split mtr_split ho.pe ha (base_attr hn) few hl (star_cons hu2.1) (args_back hu2.2)) fun σ H Q q => mth_reads hm q
    | get2 => exact absurd rfl hm
/-! ### [f, g][i](..) -/
inductive RefsOf (X : Cx) (G : List Fn) (cl : List Addr) : List Nat → List V → Prop where
  | nil : RefsOf X G cl [] []
  | cons {f : Nat} {fs : List Nat} {rs : List V} {e : Fn} {k : Nat} {fa : Addr} {fd : FuncData} {ps : List Str} (he : G[f]? = some e) (F : FnOk X.prog X.w X.K X.mg X.base (L2N.CX X.prog X.w) k fa fd ps (SpOf X.prog X.w cl e)) (room : Room k X.A)
      (kp : PySem.W.keepIn X.K (.ref fa) = true) (bd : Binds X.K fd ps []) (r : RefsOf X G cl fs rs) : RefsOf X G cl (f :: fs) (.ref fa :: rs)
theorem RefsOf.get : ∀ {fs : List Nat} {rs : List V} {j f : Nat}, RefsOf X G cl fs rs → fs[j]? = some f → ∃ e k fa fd ps, rs[j]? = some (.ref fa) ∧ G[f]? = some e ∧ FnOk X.prog X.w X.K X.mg X.base (L2N.CX X.prog X.w) k fa fd ps (SpOf X.prog X.w cl e) ∧ Room k X.A ∧ PySem.W.keepIn X.K (.ref fa) = true ∧ Binds X.K fd ps []
  | _, _, _, _, .nil, h => by simp at h
  | _, _, 0, f, .cons he F room kp bd r, h => by
    simp only [List.getElem?_cons_zero, Option.some.injEq] at h
    subst h
    exact ⟨_, _, _, _, _, rfl, he, F, room, kp, bd⟩
  | _, _, j + 1, f, .cons he F room kp bd r, h => by
    simp only [List.getElem?_cons_succ] at h
    obtain ⟨e, k, fa, fd, ps, h1, h2⟩ := RefsOf.get r h
    exact ⟨e, k, fa, fd, ps, by simpa using h1, h2⟩
theorem RefsOf.length : ∀ {fs : List Nat} {rs : List V}, RefsOf X G cl fs rs → fs.length = rs.length
  | _, _, .nil => rfl
  | _, _, .cons _ _ _ _ _ r => by rw [List.length_cons, List.length_cons, RefsOf.length r]
theorem refs_of (g : Gd X G cl W c sc) : ∀ (fs : List Nat) (ns : List Expr), chkNs c sc fs ns = true → ∃ rs t, RefsOf X G cl fs rs ∧ PA X ns t ∧ ∀ σ H (Q : List V → Hp → Prop), Q rs H → t σ H Q
  | [], ns, h => by
    unfold chkNs at h
    split at h
    · exact ⟨[], tNil, .nil, pa_nil, fun σ H Q q => q⟩
    · cases h
  | f :: fs, ns, h => by
    unfold chkNs at h
    split at h
    · rename_i x p r
      simp only [Bool.and_eq_true] at h
      obtain ⟨⟨⟨h1, h2⟩, h3⟩, h4⟩ := h
      obtain ⟨rs, t, R, pa, q⟩ := refs_of g fs r h4
      obtain ⟨e, he, hn, ⟨k, fa, fd, ps, F, room, mg, kp, bd⟩⟩ := g.fns f x (of_decide_eq_true h1)
      subst hn
      exact ⟨.ref fa :: rs, _, .cons he F room kp bd R, pa_cons (pe_glob (v := .ref fa) (g.gl h2) mg rfl (not_eq h3)) pa, fun σ H Q z => q σ H _ z⟩
    · cases h
theorem s_callIx {fs : List Nat} {i : IE} {es : IA} {ns : List Expr} {i' e1 : Expr} {r : List Expr} {p1 p2 pos : Pos} (g : Gd X G cl W c sc) (hn : chkNs c sc fs ns = true) (hs : noSlc i' = true) (hl : fs.length ≤ 1000) (hi : Snd X G cl W i i') (hu : (e1 :: r).all unst = true) (ha : PA X (e1 :: r) (tA X G cl W es)) :
    Snd X G cl W (.callIx fs i es) (.Call (.Subscript (.List ns p1) i' p2) (e1 :: r) [] pos) := by
  obtain ⟨rs, t, R, pa, now⟩ := refs_of g fs ns hn
  simp only [List.all_cons, Bool.and_eq_true] at hu
  have fx : PE X (.Subscript (.List ns p1) i' p2) _ := pe_ix ix_list (pe_lst pa) hi.pe (plain_ix hs)
  refine .val ⟨fun pins s σ H Q I ⟨M, env, st, S, V, ok⟩ => ?_⟩ (fun _ => rfl) rfl
  unfold ev at ok
  refine Call_ (thn (fx.run pins s σ H (fun y H1 => ∃ (e : Fn) (k : Nat) (fa : Addr) (fd : FuncData) (ps : List Str) (f : Nat) (M1 : List Addr) (st1 : Store), y = .ref fa ∧ G[f]? = some e ∧ FnOk X.prog X.w X.K X.mg X.base (L2N.CX X.prog X.w) k fa fd ps (SpOf X.prog X.w cl e) ∧ Room k X.A ∧ PySem.W.keepIn X.K (.ref fa) = true ∧ Binds X.K fd ps [] ∧
      SR X M1 H1 st1 ∧ EnvR (Fz M1 H1) M1 env σ ∧ OkX X M1 H1 ((evs G es env st1).bind fun vs st2 => callF G f vs st2) Q (wX cl W σ)) I ?_) fun u s1 ⟨y, H1, I1, r1, e, k, fa, fd, ps, f, M1, st1, ey, he, F, room, kp, bd, S1, V1, ok1⟩ => ?_)
  · refine now σ H _ ⟨by rw [← R.length]; exact thousand hl, fun q hq => ?_⟩
    have xq : Ext M H M (upd H q (.lst rs)) := Ext.new hq
    refine tE_step (S.new hq) (V.ext xq) (OkG.ext xq ok) fun M1 H1 st1 x v x1 S1 r1 V1 ok1 => ?_
    split at ok1
    · rename_i j
      cases r1
      cases hat : L2.atI fs j with
      | none =>
        rw [hat] at ok1
        exact ok1.elim
      | some f =>
        rw [hat] at ok1
        have fq : Fz M (upd H q (.lst rs)) q = some (.lst rs) := Fz_of upd_same (S.out hq)
        unfold L2.atI at hat
        cases hj : L2.ixN fs.length j with
        | none => rw [hj] at hat; cases hat
        | some j2 =>
          rw [hj] at hat
          obtain ⟨e, k, fa, fd, ps, h1, h2, h3, h4, h5, h6⟩ := R.get hat
          refine ⟨q, rs, j, .ref fa, rfl, rfl, .inl (.inl (Fz_at (x1.fz _ _ fq)).1), ?_, e, k, fa, fd, ps, f, M1, st1, rfl, h2, h3, h4, h5, h6, S1, V1, ok1⟩
          unfold L2.atI
          rw [← R.length, hj]
          exact h1
    · exact ok1.elim
  · subst ey
    cases r1
    have args : tA X G cl W es σ H1 fun vs H2 => SpOf X.prog X.w cl e vs H2 Q (WE W σ) := tA_step S1 V1 ok1 fun M2 H2 st2 xs vs x2 S2 r2 V2 ok2 => call_ok he S2 r2 ok2
    refine PySem.W.callWith_K (h₀ := X.base) I.ok.mod.kin kp (thn (ha.run pos pins s1 σ H1 _ I1 args) fun us s2 ⟨vs, H2, I2, r, q⟩ => ⟨I2.kIn, ?_⟩) (star_cons hu.1) (args_back hu.2)
    exact run_fnS F room bd (L2N.passAt g.tk σ) I2 r q
end
end PD

set_option Elab.async false
set_option linter.all false
set_option maxRecDepth 100000
set_option maxHeartbeats 2000000
/-! What is gone over; comprehensions; every expression. -/
namespace PD
open PySem PySem.Spec PyProof.Rows L2
section
variable {X : Cx} {G : List Fn} {cl : List Addr} {W : WX} {c : Cc} {sc : Scope}
theorem small62 {i : Int} (h : tiny i = true) : -(2 ^ 62) ≤ i ∧ i < 2 ^ 62 := by
  unfold tiny at h
  rw [Bool.and_eq_true] at h
  have h1 := of_decide_eq_true h.1
  have h2 := of_decide_eq_true h.2
  omega
theorem i_seq {tg : Expr} {a : IE} {e : Expr} (ha : Snd X G cl W a e) : PI X tg e (tI X G cl W (.seq a)) := by
  refine PI.imp (pi_seq ha.pe) fun σ H R ⟨M, env, st, S, V, ok⟩ => ?_
  unfold evI at ok
  refine tE_step S V ok fun M1 H1 st1 x v x1 S1 r1 V1 ok1 => ?_
  split at ok1
  · rename_i its hi
    exact ⟨M1, st1, its, S1, guard_of hi, src_of r1 hi, fun J wk => ok1 M1 H1 J (Ext.refl _ _) S1 ⟨wk, st1, S1, guard_of hi⟩⟩
  · exact ok1.elim
theorem i_range1 {tg : Expr} {a : IE} {a' : Expr} {p pos : Pos} (g : Gd X G cl W c sc) (hg : isGl sc "range" = true) (hu : unst a' = true) (ha : Snd X G cl W a a') : PI X tg (.Call (.Name "range" p) [a'] [] pos) (tI X G cl W (.range1 a)) := by
  refine PI.imp (pi_range1 (g.gl hg) (g.blt _ (by decide +kernel)) (pa_cons ha.pe pa_nil (star_cons hu)) (star_cons hu)) fun σ H R ⟨M, env, st, S, V, ok⟩ => ?_
  unfold evI at ok
  refine tE_step S V ok fun M1 H1 st1 x v x1 S1 r1 V1 ok1 => ?_
  split at ok1
  · rename_i n
    cases r1
    split at ok1
    · rename_i ht
      obtain ⟨h1, h2⟩ := small62 ht
      exact ⟨n, rfl, h1, h2, ok1 M1 H1 _ (Ext.refl _ _) S1 ⟨wk_range, st1, S1, rfl⟩⟩
    · exact ok1.elim
  · exact ok1.elim
theorem i_range3 {tg : Expr} {a b d : IE} {a' b' d' : Expr} {p pos : Pos} (g : Gd X G cl W c sc) (hg : isGl sc "range" = true) (ua : unst a' = true) (ub : unst b' = true) (ud : unst d' = true) (ha : Snd X G cl W a a') (hb : Snd X G cl W b b') (hd : Snd X G cl W d d') :
    PI X tg (.Call (.Name "range" p) [a', b', d'] [] pos) (tI X G cl W (.range3 a b d)) := by
  refine PI.imp (pi_range3 (g.gl hg) (g.blt _ (by decide +kernel)) (pa_cons ha.pe (pa_cons hb.pe (pa_cons hd.pe pa_nil (star_cons ud)) (star_cons ub)) (star_cons ua)) (star_cons ua) (args_back (by simp [ub, ud]))) fun σ H R ⟨M, env, st, S, V, ok⟩ => ?_
  unfold evI at ok
  refine tE_step S V ok fun M1 H1 st1 x v x1 S1 r1 V1 ok1 => tE_step S1 V1 ok1 fun M2 H2 st2 y u x2 S2 r2 V2 ok2 => tE_step S2 V2 ok2 fun M3 H3 st3 z w x3 S3 r3 V3 ok3 => ?_
  split at ok3
  · rename_i i j k
    cases r1
    cases r2
    cases r3
    split at ok3
    · rename_i ht
      simp only [Bool.and_eq_true] at ht
      obtain ⟨⟨h1, h2⟩, h3⟩ := ht
      have e := of_decide_eq_true h3
      subst e
      obtain ⟨p1, p2⟩ := small62 h1
      obtain ⟨q1, q2⟩ := small62 h2
      exact ⟨i, j, -1, _, rfl, RgC.neg p1 p2 q1 q2, ok3 M3 H3 _ (Ext.refl _ _) S3 ⟨wk_rangeC, st3, S3, rfl⟩⟩
    · exact ok3.elim
  · exact ok3.elim
theorem i_enum {els : List Expr} {kk : Nat} {tp : Pos} {a : IE} {a' : Expr} {p pos : Pos} (g : Gd X G cl W c sc) (hg : isGl sc "enumerate" = true) (hu : unst a' = true) (ha : Snd X G cl W a a') : PI X (.Tuple els kk tp) (.Call (.Name "enumerate" p) [a'] [] pos) (tI X G cl W (.enum a)) := by
  refine PI.imp (pi_enumV (g.gl hg) (g.blt _ (by decide +kernel)) (pa_cons ha.pe pa_nil (star_cons hu)) (star_cons hu)) fun σ H R ⟨M, env, st, S, V, ok⟩ => ?_
  unfold evI at ok
  refine tE_step S V ok fun M1 H1 st1 x v x1 S1 r1 V1 ok1 => ?_
  split at ok1
  · rename_i its hi
    have ns : notStr x = true := by
      cases v with
      | loc n =>
        obtain ⟨b, _, rfl⟩ := r1
        rfl
      | dat d =>
        cases d with
        | list ds => cases r1; rfl
        | tuple ds => cases r1; rfl
        | _ => cases hi
    exact ⟨x, M1, st1, its, rfl, ns, S1, guard_seq hi, src_seq r1 hi, fun J wk => ok1 M1 H1 J (Ext.refl _ _) S1 ⟨wk, st1, S1, (guard_seq hi : guardOk its.src st1 = true)⟩⟩
  · exact ok1.elim
theorem i_zip {els : List Expr} {kk : Nat} {tp : Pos} {a b : IE} {a' b' : Expr} {p pos : Pos} (g : Gd X G cl W c sc) (hg : isGl sc "zip" = true) (ua : unst a' = true) (ub : unst b' = true) (ha : Snd X G cl W a a') (hb : Snd X G cl W b b') :
    PI X (.Tuple els kk tp) (.Call (.Name "zip" p) [a', b'] [] pos) (tI X G cl W (.zip a b)) := by
  refine PI.imp (RZ.pi_zipA (g.gl hg) (g.blt _ (by decide +kernel)) (pa_cons ha.pe (pa_cons hb.pe pa_nil (star_cons ub)) (star_cons ua)) (star_cons ua) (args_back (by simp [ub]))) fun σ H R ⟨M, env, st, S, V, ok⟩ => ?_
  unfold evI at ok
  refine tE_step S V ok fun M1 H1 st1 x v x1 S1 r1 V1 ok1 => tE_step S1 V1 ok1 fun M2 H2 st2 y u x2 S2 r2 V2 ok2 => ?_
  split at ok2
  · have r1' := ev_on r1 x2
    cases r1' with
    | tup h1 h2 =>
      cases r2 with
      | tup g1 g2 => exact ⟨_, _, _, _, rfl, .inr ⟨SqT.fz h1, SqT.fz g1, ok2 M2 H2 _ (Ext.refl _ _) S2 ⟨wk_zipT h1 h2 g1 g2, st2, S2, rfl⟩⟩⟩
  · have r1' := ev_on r1 x2
    cases r1' with
    | lst h1 h2 =>
      cases r2 with
      | lst g1 g2 => exact ⟨_, _, _, _, rfl, .inl ⟨.inl (Rd.sub Fz_sub h1), .inl (Rd.sub Fz_sub g1), ok2 M2 H2 _ (Ext.refl _ _) S2 ⟨wk_zipL h1 h2 g1 g2, st2, S2, rfl⟩⟩⟩
  · exact ok2.elim
/-! ### a comprehension's block -/
theorem takes_never {X : Cx} : L2N.Takes X (fun _ _ _ _ => False) := fun u s' ⟨a, B, sI, pins, σ, H, cls, d, _, _, _, _, _, _, _, _, w⟩ => w.elim
theorem Gd.blk (g : Gd X G cl W c sc) (s : Shared) (H : Hp) (scope : Scope) (C : Addr) (cv : List (Str × Addr)) (fp : List Addr) : Gd (X.blk s H scope (compEnvC scope cv C X.env) fp) G cl (fun _ _ _ _ => False) c (relS scope sc) where
  N := g.N
  nd := g.nd
  sc := by
    show relS scope X.env.scope = _
    rw [g.sc]
  calm := g.calm
  hu := g.hu
  tk := takes_never
  fns := fun i x h => by
    obtain ⟨f, h1, h2, ⟨k, fa, fd, ps, F, room, mg, kp, bd⟩⟩ := g.fns i x h
    exact ⟨f, h1, h2, ⟨k, fa, fd, ps, F, room, mg, kp, bd⟩⟩
  blt := g.blt
theorem own_map (own : List Nat) : (ownOf c own).map (·.2) = own := by
  unfold ownOf
  rw [List.map_map]
  exact List.map_id' own
theorem tgs_own {scope sc0 : Scope} : ∀ (tg : Tg) (e : Expr), chkTg c (relS scope sc0) tg e = true → chkTg c scope tg e = true → ∀ (X : Cx), X.fn = (fun x => scope.names.lookup x == some .cell) → X.N = c.N → X.N.Nodup → X.env.scope = relS scope sc0 → X.calm = true → PG X e (tG tg) := by
  intro tg e h1 h2 X hf hN nd hs calm
  have one : ∀ x, isOwn scope x = true → X.fn x = true ∨ X.env.scope.names.lookup x = some .local := fun x h => by
    unfold isOwn at h
    split at h
    · rename_i q
      refine .inr ?_
      rw [hs]
      exact lookup_relS_keep (by decide) q
    · rename_i q
      refine .inl ?_
      rw [hf]
      show (scope.names.lookup x == some .cell) = true
      rw [q]
      decide
    · cases h
  exact pg_tg hN nd hs calm one tg e h1 h2
/-- the parts of a comprehension -/
structure CompOk (X : Cx) (G : List Fn) (cl : List Addr) (W : WX) (c : Cc) (own : List Nat) (tg : Tg) (it : II) (cond : IO) (e : IE) (e' tg' it' : Expr) (ifs : List Expr) (scope : Scope) : Prop where
  nd : X.N.Nodup
  calm : X.calm = true
  tgin : tgIn own tg = true
  pi : PI X tg' it' (tI X G cl W it)
  blk : BlkOk X.N X.env.scope scope (ownOf c own)
  pg : ∀ (s : Shared) (H : Hp) (C : Addr) (cv : List (Str × Addr)) (fp : List Addr), PG (X.blk s H scope (compEnvC scope cv C X.env) fp) tg' (tG tg)
  pts : ∀ (s : Shared) (H : Hp) (C : Addr) (cv : List (Str × Addr)) (fp : List Addr), PTs (X.blk s H scope (compEnvC scope cv C X.env) fp) ifs (tCond X G cl cond)
  pe : ∀ (s : Shared) (H : Hp) (C : Addr) (cv : List (Str × Addr)) (fp : List Addr), PE (X.blk s H scope (compEnvC scope cv C X.env) fp) e' (tE X G cl (fun _ _ _ _ => False) e)
  notSet : ∀ x, foldedSetIterable it' X.env x = pure x
theorem s_comp {own : List Nat} {tg : Tg} {it : II} {cond : IO} {e : IE} {e' tg' it' : Expr} {ifs : List Expr} {scope : Scope} {pos : Pos} (h : CompOk X G cl W c own tg it cond e e' tg' it' ifs scope) : Snd X G cl W (.comp own tg it cond e) (.ListComp e' [⟨tg', it', ifs, 0⟩] scope pos) := by
  refine .val (PE.imp (pe_lc h.calm h.nd h.pi h.blk h.pg h.pts h.pe h.notSet) fun σ H Q q => ?_) (fun _ => rfl) rfl
  rw [own_map]
  exact comp_reads h.tgin q
end
/-! ### every expression -/
section
variable {G : List Fn} {cl : List Addr} {c : Cc}
theorem set_no {e : Expr} {env : PySem.Env} (h : (match e with
    | .Set .. => false
    | _ => true) = true) : ∀ x, foldedSetIterable e env x = pure x := by
  intro x
  cases e <;> first
    | rfl
    | cases h
theorem notSetI {sc : Scope} {env : PySem.Env} : ∀ (it : II) (e : Expr) (t : Bool), chkI c sc it e t = true → ∀ x, foldedSetIterable e env x = pure x
  | .seq a, e, t, h => by
    unfold chkI at h
    rw [Bool.and_eq_true] at h
    exact set_no h.1
  | .dkeys a, e, t, h => by
    unfold chkI at h
    cases h
  | .range1 a, e, t, h => by
    unfold chkI at h
    split at h
    · exact fun _ => rfl
    · cases h
  | .range3 a b d, e, t, h => by
    unfold chkI at h
    split at h
    · exact fun _ => rfl
    · cases h
  | .enum a, e, t, h => by
    unfold chkI at h
    split at h
    · exact fun _ => rfl
    · cases h
  | .zip a b, e, t, h => by
    unfold chkI at h
    split at h
    · exact fun _ => rfl
    · cases h
mutual
theorem snd : ∀ (ie : IE) (e : Expr) (X : Cx) (W : WX) (sc : Scope), Gd X G cl W c sc → chkE c sc ie e = true → Snd X G cl W ie e
  | .var i, e, X, W, sc, g, h => s_var g h
  | .lit d, e, X, W, sc, g, h => s_lit h
  | .neg a, e, X, W, sc, g, h => by
    unfold chkE at h
    split at h
    · exact s_neg (snd a _ X W sc g h)
    · cases h
  | .bin op a b, e, X, W, sc, g, h => by
    unfold chkE at h
    split at h
    · simp only [Bool.and_eq_true] at h
      have e := of_decide_eq_true h.1
      subst e
      exact s_bin (snd a _ X W sc g h.2.1) (snd b _ X W sc g h.2.2)
    · cases h
  | .cmp op a b, e, X, W, sc, g, h => by
    unfold chkE at h
    split at h
    · simp only [Bool.and_eq_true] at h
      have e := of_decide_eq_true h.1.1
      subst e
      exact s_cmp g.hu (not_eq h.1.2) (snd a _ X W sc g h.2.1) (snd b _ X W sc g h.2.2)
    · cases h
  | .chain op op' a b d, e, X, W, sc, g, h => by
    unfold chkE at h
    split at h
    · simp only [Bool.and_eq_true] at h
      obtain ⟨⟨⟨h1, h2⟩, h3⟩, h4, h5, h6⟩ := h
      have e := of_decide_eq_true h1
      subst e
      have e := of_decide_eq_true h2
      subst e
      exact s_chain g.hu (not_eq h3) (snd a _ X W sc g h4) (snd b _ X W sc g h5) (snd d _ X W sc g h6)
    · cases h
  | .and a b, e, X, W, sc, g, h => by
    unfold chkE at h
    split at h
    · simp only [Bool.and_eq_true] at h
      exact s_and (not_eq h.1.1) h.1.2 (snd a _ X W sc g h.2.1) (snd b _ X W sc g h.2.2)
    · cases h
  | .or a b, e, X, W, sc, g, h => by
    unfold chkE at h
    split at h
    · simp only [Bool.and_eq_true] at h
      exact s_or (not_eq h.1.1) h.1.2 (snd a _ X W sc g h.2.1) (snd b _ X W sc g h.2.2)
    · cases h
  | .one a, e, X, W, sc, g, h => by
    unfold chkE at h
    split at h
    · simp only [Bool.and_eq_true] at h
      exact s_one (not_eq h.1) (snd a _ X W sc g h.2)
    · cases h
  | .not a, e, X, W, sc, g, h => by
    unfold chkE at h
    split at h
    · simp only [Bool.and_eq_true] at h
      exact s_not (not_eq h.1) (snd a _ X W sc g h.2)
    · cases h
  | .ite t a b, e, X, W, sc, g, h => by
    unfold chkE at h
    split at h
    · simp only [Bool.and_eq_true] at h
      exact s_ite (not_eq h.1.1) (snd t _ X W sc g h.1.2) (snd a _ X W sc g h.2.1) (snd b _ X W sc g h.2.2)
    · cases h
  | .tup es, e, X, W, sc, g, h => by
    unfold chkE at h
    split at h
    · simp only [Bool.and_eq_true] at h
      exact s_tup (of_decide_eq_true h.1) (sndA es _ X W sc g h.2)
    · cases h
  | .lst es, e, X, W, sc, g, h => by
    unfold chkE at h
    split at h
    · simp only [Bool.and_eq_true] at h
      exact s_lst (of_decide_eq_true h.1) (sndA es _ X W sc g h.2)
    · cases h
  | .newL es, e, X, W, sc, g, h => by
    unfold chkE at h
    split at h
    · simp only [Bool.and_eq_true] at h
      exact s_newL (of_decide_eq_true h.1) (sndA es _ X W sc g h.2)
    · cases h
  | .newD, e, X, W, sc, g, h => by
    unfold chkE at h
    split at h
    · exact s_newD
    · cases h
  | .newD1 k v, e, X, W, sc, g, h => by
    unfold chkE at h
    split at h
    · simp only [Bool.and_eq_true] at h
      obtain ⟨⟨⟨⟨h1, h2⟩, h3⟩, h4⟩, h5⟩ := h
      have e := eq_of_beq h5
      subst e
      exact s_newD1 g h1 h2 (not_eq h3) (not_eq h4)
    · cases h
  | .ix a i, e, X, W, sc, g, h => by
    unfold chkE at h
    split at h
    · simp only [Bool.and_eq_true] at h
      exact s_ix g.hu h.1 (snd a _ X W sc g h.2.1) (snd i _ X W sc g h.2.2)
    · cases h
  | .slc a lo hi, e, X, W, sc, g, h => by
    unfold chkE at h
    split at h
    · simp only [Bool.and_eq_true] at h
      exact s_slc (snd a _ X W sc g h.1) (sndO lo _ X W sc g h.2.1) (sndO hi _ X W sc g h.2.2)
    · cases h
  | .rev a, e, X, W, sc, g, h => by
    unfold chkE at h
    split at h
    · simp only [Bool.and_eq_true] at h
      have e := of_decide_eq_true h.1
      subst e
      exact s_rev (snd a _ X W sc g h.2)
    · cases h
  | .call f es, e, X, W, sc, g, h => by
    unfold chkE at h
    split at h
    · simp only [Bool.and_eq_true] at h
      obtain ⟨⟨⟨h1, h2⟩, h3⟩, h4⟩ := h
      rename_i es' _
      cases es' with
      | nil =>
        cases es with
        | nil => exact s_call0 g (of_decide_eq_true h1) h2 (not_eq h3)
        | cons a r =>
          unfold chkA at h4
          cases h4
      | cons e1 r => exact s_call g (of_decide_eq_true h1) h2 (not_eq h3) (chkA_unst es _ h4).1 (sndA es _ X W sc g h4)
    · cases h
  | .callIx fs i es, e, X, W, sc, g, h => by
    unfold chkE at h
    split at h
    · simp only [Bool.and_eq_true] at h
      obtain ⟨⟨⟨h1, h2⟩, h3⟩, h4, h5⟩ := h
      exact s_callIx g h1 h2 (of_decide_eq_true h3) (snd i _ X W sc g h4) (chkA_unst es _ h5).1 (sndA es _ X W sc g h5)
    · cases h
  | .blt b es, e, X, W, sc, g, h => by
    unfold chkE at h
    split at h
    · split at h
      · split at h
        · simp only [Bool.and_eq_true] at h
          obtain ⟨⟨⟨⟨h1, h2⟩, h3⟩, h4⟩, h5⟩ := h
          have e := of_decide_eq_true h1
          subst e
          have e := of_decide_eq_true h2
          subst e
          cases es with
          | nil =>
            unfold chkA at h5
            cases h5
          | cons a r =>
            unfold chkA at h5
            simp only [Bool.and_eq_true] at h5
            cases r with
            | nil => exact s_lenSet g h3 h4 rfl h5.1.1 (snd a _ X W sc g h5.1.2)
            | cons _ _ =>
              have h6 := h5.2
              unfold chkA at h6
              cases h6
        · cases h
      · rename_i hb
        simp only [Bool.and_eq_true] at h
        exact s_blt g (fun _ e => hb e) (of_decide_eq_true h.1.1) h.1.2 (chkA_unst es _ h.2).1 (sndA es _ X W sc g h.2)
    · cases h
  | .newLst a, e, X, W, sc, g, h => by
    unfold chkE at h
    split at h
    · simp only [Bool.and_eq_true] at h
      have e := of_decide_eq_true h.1.1
      subst e
      exact s_newLst g h.1.2 h.2.1 (snd a _ X W sc g h.2.2)
    · cases h
  | .dlist a, e, X, W, sc, g, h => by
    unfold chkE at h
    split at h
    · simp only [Bool.and_eq_true] at h
      have e := of_decide_eq_true h.1.1
      subst e
      exact s_dlist g h.1.2 h.2.1 (snd a _ X W sc g h.2.2)
    · cases h
  | .dsort a, e, X, W, sc, g, h => by
    unfold chkE at h
    cases h
  | .isT a t, e, X, W, sc, g, h => by
    unfold chkE at h
    split at h
    · simp only [Bool.and_eq_true] at h
      obtain ⟨⟨⟨⟨h1, h2⟩, h3⟩, h4⟩, h5, h6⟩ := h
      have e := of_decide_eq_true h1
      subst e
      have e := of_decide_eq_true h2
      subst e
      exact s_isT g h3 h4 h5 (snd a _ X W sc g h6)
    · cases h
  | .mth m o es, e, X, W, sc, g, h => by
    unfold chkE at h
    split at h
    · simp only [Bool.and_eq_true] at h
      obtain ⟨⟨⟨⟨⟨h1, h2⟩, h3⟩, h4⟩, h5, h6⟩, h7⟩ := h
      have e := of_decide_eq_true h1
      subst e
      have hm : m ≠ .get2 := fun e => by
        subst e
        cases h7
      obtain ⟨u1, u2⟩ := chkA_unst es _ h6
      exact s_mth hm h2 h3 u1 u2 (of_decide_eq_true h4) (snd o _ X W sc g h5) (sndA es _ X W sc g h6)
    · cases h
  | .comp own tg it cond a, e, X, W, sc, g, h => by
    unfold chkE at h
    split at h
    · rename_i a' tg' it' ifs scope p
      simp only [Bool.and_eq_true] at h
      obtain ⟨⟨⟨⟨⟨h1, h2⟩, h3⟩, h4⟩, ⟨h5, h6⟩, h7⟩, h8⟩ := h
      refine s_comp (c := c) ⟨g.nd, g.calm, h4, sndI it _ tg' X W sc g h5, ?_, fun s H C cv fp => ?_, fun s H C cv fp => ?_, fun s H C cv fp => ?_, ?_⟩
      · rw [g.N, g.sc]
        exact blkOk_by h1
      · exact tgs_own tg tg' h2 h3 _ rfl g.N g.nd (g.blk s H scope C cv fp).sc g.calm
      · have gb := g.blk s H scope C cv fp
        cases cond with
        | none =>
          split at h8
          · exact pts_nil
          · unfold chkO at h8
            cases h8
          · cases h8
        | some t =>
          split at h8
          · unfold chkO at h8
            cases h8
          · unfold chkO at h8
            have st := snd t _ _ _ _ gb h8
            exact pts_one (st.pt (not_eq h6))
          · cases h8
      · exact (snd a _ _ _ _ (g.blk s H scope C cv fp) h7).pe
      · exact notSetI it it' (pairT tg') h5
    · cases h
theorem sndA : ∀ (es : IA) (es' : List Expr) (X : Cx) (W : WX) (sc : Scope), Gd X G cl W c sc → chkA c sc es es' = true → PA X es' (tA X G cl W es)
  | .nil, es', X, W, sc, g, h => by
    unfold chkA at h
    split at h
    · refine PA.imp pa_nil fun σ H Q ⟨M, env, st, S, V, ok⟩ => ?_
      unfold evs at ok
      exact ok M H [] (Ext.refl _ _) S .nil
    · cases h
  | .cons a r, es', X, W, sc, g, h => by
    unfold chkA at h
    split at h
    · simp only [Bool.and_eq_true] at h
      refine PA.imp (pa_cons (snd a _ X W sc g h.1.2).pe (sndA r _ X W sc g h.2) (star_cons h.1.1)) fun σ H Q ⟨M, env, st, S, V, ok⟩ => ?_
      unfold evs at ok
      exact tE_step S V ok fun M1 H1 st1 x v x1 S1 r1 V1 ok1 => tA_step S1 V1 ok1 fun M2 H2 st2 xs vs x2 S2 r2 V2 ok2 => ok2 M2 H2 (x :: xs) (Ext.refl _ _) S2 (.cons (ev_on r1 x2) r2)
    · cases h
theorem sndO : ∀ (o : IO) (o' : Option Expr) (X : Cx) (W : WX) (sc : Scope), Gd X G cl W c sc → chkO c sc o o' = true → PO X o' (tO X G cl W o)
  | .none, o', X, W, sc, g, h => by
    unfold chkO at h
    split at h
    · refine PO.imp po_none fun σ H Q ⟨M, env, st, S, V, ok⟩ => ?_
      unfold evo at ok
      exact ok M H none (Ext.refl _ _) S rfl
    · cases h
  | .some a, o', X, W, sc, g, h => by
    unfold chkO at h
    split at h
    · refine PO.imp (po_some (snd a _ X W sc g h).pe) fun σ H Q ⟨M, env, st, S, V, ok⟩ => ?_
      unfold evo at ok
      refine tE_step S V ok fun M1 H1 st1 x v x1 S1 r1 V1 ok1 => ?_
      split at ok1
      · cases r1
        exact ⟨_, rfl, ok1 M1 H1 _ (Ext.refl _ _) S1 rfl⟩
      · exact ok1.elim
    · cases h
theorem sndI : ∀ (it : II) (e : Expr) (tg : Expr) (X : Cx) (W : WX) (sc : Scope), Gd X G cl W c sc → chkI c sc it e (pairT tg) = true → PI X tg e (tI X G cl W it)
  | .seq a, e, tg, X, W, sc, g, h => by
    unfold chkI at h
    rw [Bool.and_eq_true] at h
    exact i_seq (snd a _ X W sc g h.2)
  | .dkeys a, e, tg, X, W, sc, g, h => by
    unfold chkI at h
    cases h
  | .range1 a, e, tg, X, W, sc, g, h => by
    unfold chkI at h
    split at h
    · simp only [Bool.and_eq_true] at h
      have e := of_decide_eq_true h.1.1
      subst e
      exact i_range1 g h.1.2 h.2.1 (snd a _ X W sc g h.2.2)
    · cases h
  | .range3 a b d, e, tg, X, W, sc, g, h => by
    unfold chkI at h
    split at h
    · simp only [Bool.and_eq_true] at h
      obtain ⟨⟨h1, h2⟩, ⟨h3, h4⟩, ⟨h5, h6⟩, h7, h8⟩ := h
      have e := of_decide_eq_true h1
      subst e
      exact i_range3 g h2 h3 h5 h7 (snd a _ X W sc g h4) (snd b _ X W sc g h6) (snd d _ X W sc g h8)
    · cases h
  | .enum a, e, tg, X, W, sc, g, h => by
    unfold chkI at h
    split at h
    · simp only [Bool.and_eq_true] at h
      obtain ⟨⟨⟨h1, h2⟩, h3⟩, h4, h5⟩ := h
      have e := of_decide_eq_true h1
      subst e
      unfold pairT at h3
      split at h3
      · exact i_enum g h2 h4 (snd a _ X W sc g h5)
      · cases h3
    · cases h
  | .zip a b, e, tg, X, W, sc, g, h => by
    unfold chkI at h
    split at h
    · simp only [Bool.and_eq_true] at h
      obtain ⟨⟨⟨h1, h2⟩, h3⟩, ⟨h4, h5⟩, h6, h7⟩ := h
      have e := of_decide_eq_true h1
      subst e
      unfold pairT at h3
      split at h3
      · exact i_zip g h2 h4 h6 (snd a _ X W sc g h5) (snd b _ X W sc g h7)
      · cases h3
    · cases h
end
theorem comp_ok {own : List Nat} {tg : Tg} {it : II} {cond : IO} {a : IE} {a' tg' it' : Expr} {ifs : List Expr} {scope : Scope} {p : Pos} {X : Cx} {W : WX} {sc : Scope} (g : Gd X G cl W c sc) (h : chkE c sc (.comp own tg it cond a) (.ListComp a' [⟨tg', it', ifs, 0⟩] scope p) = true) :
    CompOk X G cl W c own tg it cond a a' tg' it' ifs scope := by
  unfold chkE at h
  simp only [Bool.and_eq_true] at h
  obtain ⟨⟨⟨⟨⟨h1, h2⟩, h3⟩, h4⟩, ⟨h5, h6⟩, h7⟩, h8⟩ := h
  refine ⟨g.nd, g.calm, h4, sndI it _ tg' X W sc g h5, ?_, fun s H C cv fp => ?_, fun s H C cv fp => ?_, fun s H C cv fp => ?_, ?_⟩
  · rw [g.N, g.sc]
    exact blkOk_by h1
  · exact tgs_own tg tg' h2 h3 _ rfl g.N g.nd (g.blk s H scope C cv fp).sc g.calm
  · have gb := g.blk s H scope C cv fp
    cases cond with
    | none =>
      split at h8
      · exact pts_nil
      · unfold chkO at h8
        cases h8
      · cases h8
    | some t =>
      split at h8
      · unfold chkO at h8
        cases h8
      · unfold chkO at h8
        have st := snd t _ _ _ _ gb h8
        exact pts_one (st.pt (not_eq h6))
      · cases h8
  · exact (snd a _ _ _ _ (g.blk s H scope C cv fp) h7).pe
  · exact notSetI it it' (pairT tg') h5
end
end PD

set_option Elab.async false
set_option linter.all false
set_option maxRecDepth 100000
set_option maxHeartbeats 2000000
/-! A def that is called where an error is handled, and told which error. -/
namespace PD
open PySem PySem.Spec PyProof.Rows L2
/-- what a def promises there: the error's object is p's -/
structure HotFn (P : Program) (w : World) (K : PySem.W.Frag) (mg : Str → Option Value) (base : Heap) (T : CXT) (k : Nat) (f : Addr) (fd : FuncData) (ps : List Str) (sp : Addr × Obj → Sp) : Prop where
  len : ∀ p vs H Q E, sp p vs H Q E → vs.length = ps.length
  run : ∀ (A : Around) (outer : List PySem.Env) (s : Shared) (H : Hp) (args : Args) (us : List Value) (vs : List V) (Q : VK) (E : XK) (p : Addr × Obj), L2H.RoomH k A → L2H.Hot1 A p → L2H.PinOk outer H s p →
    Env0 P w K mg base A outer s H → BindsTo s fd args (ps.zip us) → Vals vs us → sp p vs H Q E → codeAny (model P w) A (.call (.ref f) args) (CR T outer P w H s Q E) s
section
variable {T : CXT} {P : Program} {w : World} {K : PySem.W.Frag} {mg : Str → Option Value} {base : Heap}
theorem hot_of {k : Nat} {f : Addr} {nm ql : Str} {prm : Arguments} {bd : List Stmt} {sc : Scope} {v1 v2 v3 v4 v5 v6 v7 : Value} {a1 a2 : Option Addr} {sl : Array (Option Value)} {N ps : List Str} {sp : Addr × Obj → Sp}
    (at_ : K.lookup f = some ⟨v7, a2, .func (PySem.W.fnOf nm ql prm bd sc v1 v2 v3 v4 a1 v5 v6), sl⟩) (cd : PySem.W.codeIn K v5 ql = true) (S : FnScope N ps sc) (len : ∀ p vs H Q E, sp p vs H Q E → vs.length = ps.length)
    (body : ∀ (A : Around) (outer : List PySem.Env) (s : Shared) (H : Hp) (vs : List V) (Q : VK) (E : XK) (p : Addr × Obj), L2H.Hot1 A p → L2H.RoomH k (A.deeper (envOfC ql sc s.heap.objs.size f v5)) → sp p vs H Q E →
      ∃ t, PSs (L2H.cxH T P w K mg base N ql sc f v5 A outer s H E p) bd t ∧ t { nx := fun _ H' => Q .non H', rt := Q } (L2.start N vs) H) :
    HotFn P w K mg base T (k + 1) f (PySem.W.fnOf nm ql prm bd sc v1 v2 v3 v4 a1 v5 v6) ps sp := by
  refine ⟨len, fun A outer s H args us vs Q E p room hot pin env bind rel want => ?_⟩
  have inS : K.In s.heap := env.mod.kin.keeps fun b o q => (env.bs b o q).1
  have noL : s.heap.NoLimit := env.mod.nolimit.keeps fun b o q => (env.bs b o q).1
  have same := len _ _ _ _ _ want
  have kinds : ∀ y ∈ ps.zip us, sc.names.lookup y.1 = some .local ∨ (sc.names.lookup y.1 = some .cell ∧ ((cellsFrom (s.heap.objs.size + 1) sc.names []).lookup y.1).isSome = true) := by
    rintro ⟨n, v⟩ hy
    rcases S.par n (List.of_mem_zip hy).1 with q | q
    · exact .inl q
    · exact .inr ⟨q, PySem.W.cellsFrom_some _ _ _ (.inl q)⟩
  refine codeAny_call_function room.depth (inS _ _ at_) rfl S.co S.gen rfl (PySem.W.codeRec_of inS cd) (bind _ _ _ _ ?_)
  refine wpAny_newFunctionEnv_cells S.kind kinds fun e0 he s1 made => ?_
  subst he
  refine ⟨noL.keeps made.toInCall.keep, codeAny_func ?_⟩
  obtain ⟨t, runs, asks⟩ := body A outer s H vs Q E p hot (room.deeper _) want
  have I := L2H.inv_startH (CX := T) (E := E) S pin env same rel made
  refine wpAny_mono (runs.run [] s1 (L2.start N vs) H _ I asks) (fun fl s2 got => ?_) fun e s2 got => got
  cases fl with
  | ret u =>
    obtain ⟨v, σ2, H2, J, rv, q⟩ := got
    exact ⟨v, H2, J.os, J.bare, J.base, J.hok, rv, q⟩
  | next =>
    obtain ⟨σ2, H2, J, q⟩ := got
    exact ⟨.non, H2, J.os, J.bare, J.base, J.hok, rfl, q⟩
  | brk =>
    obtain ⟨_, _, _, q⟩ := got
    exact q.elim
  | cont =>
    obtain ⟨_, _, _, q⟩ := got
    exact q.elim
end
/-- its call f(e ..) within the suite that holds p -/
def tHot (sp : Addr × Obj → Sp) (p : Addr × Obj) (E : XK) (t : TA) : TE := fun σ H Q => t σ H fun vs H1 => sp p vs H1 Q E
theorem pe_hot {X : Cx} {T : CXT} {k : Nat} {f : Addr} {fd : FuncData} {ps : List Str} {sp : Addr × Obj → Sp} {E : XK} {x : Str} {q pos : Pos} {e : Expr} {es : List Expr} {t : TA} {p : Addr × Obj} (F : HotFn X.prog X.w X.K X.mg X.base T k f fd ps sp) (room : L2H.RoomH k X.A) (hot : L2H.Hot1 X.A p) (mem : p ∈ X.pn)
    (g : Gl X x) (m : X.mg x = some (.ref f)) (kp : PySem.W.keepIn X.K (.ref f) = true) (b : Binds X.K fd ps []) (out : ∀ σ, PassesAt T X σ E) (as : PA X (e :: es) t) (dbg : (x == ("__debug__" : Str)) = false := by decide)
    (st : starEach (e :: es) X.env = (false, eval e X.env) :: starEach es X.env := by rfl) (bk : (backTo pos (starEach es X.env)).any (·.1) = false := by rfl) : PE X (.Call (.Name x q) (e :: es) [] pos) (tHot sp p E t) := by
  refine ⟨fun pins s σ H Q I h => ?_⟩
  refine wpAny_Call_Name_kw (ld_glob I g m ?_ dbg)
  refine PySem.W.callWith_K (h₀ := X.base) I.ok.mod.kin kp (thn (as.run pos pins s σ H _ I h) fun us s1 ⟨vs, H1, J, rel, want⟩ => ⟨J.kIn, ?_⟩) st bk
  have bnd := b s1 us J.kIn (by rw [List.append_nil, ← rel.length]; exact F.len _ _ _ _ _ want)
  rw [List.append_nil] at bnd
  obtain ⟨p1, p2, p3, p4, p5⟩ := J.pin p (List.mem_append_left _ mem)
  have pin : L2H.PinOk X.stack H1 s1 p := ⟨p1, p2, fun hm => (List.mem_cons.mp (J.stkSub p.1 hm)).elim p3 p4, p5⟩
  refine wpAny_call (codeAny_mono (F.run X.A X.stack s1 H1 ⟨us, []⟩ us vs Q E p room hot pin J.env0 bnd rel want) fun r s2 got => ?_)
  cases r with
  | error e => exact out σ pins H1 s1 e s2 J got
  | ok fl =>
    cases fl with
    | ret u => exact J.after got
    | _ => exact got.elim
/-- isinstance of the error -/
def rIsP (K : PySem.W.Frag) (D a : Addr) : List V → Hp → VK → Prop := fun xs H Q => ∃ (c : V) (cv : Value) (b : Bool), xs = [.ref a, c] ∧ (∀ u, RelV c u → u = cv) ∧ PySem.W.kitOne K (.ref D) cv = some b ∧ Q (.bl b) H
theorem cr_isP {X : Cx} {D : Addr} {p : Addr × Obj} (mem : p ∈ X.pn) (C : ExcC X.K D) (z : Zc (.ref D) none p.2) (fl : ∃ vs, p.2.data = .fields vs) : CallR X (.builtin "isinstance") (rIsP X.K D p.1) := by
  rintro pins s σ H xs us Q I rel ⟨c, cv, b, rfl, one, k, q⟩
  cases rel with
  | cons r1 rel =>
    cases rel with
    | cons r2 rel =>
      cases rel
      cases r1
      have e := one _ r2
      subst e
      have got := (I.pin p (List.mem_append_left _ mem)).1
      obtain ⟨a, oe⟩ := p
      obtain ⟨vs, hv⟩ := fl
      have at_ : PySem.W.InstAt s.heap a oe D none := by
        obtain ⟨o1, o2, o3, o4⟩ := oe
        obtain ⟨z1, z2⟩ := z
        dsimp only at z1 z2 hv
        subst z1 z2 hv
        exact ⟨got, rfl, rfl, trivial⟩
      exact PySem.W.kia_one (PySem.W.handS_kitx_exc C.hg C.hk C.hs C.hd C.ha C.hn C.ht C.hm) I.kIn at_ k (fun q => nomatch q) fun tk => ⟨.bl b, H, I.kept (t' := tk) fun _ _ q => q, rfl, q⟩
/-- list.count of a truth value -/
def rCntB (K : PySem.W.Frag) : V → List V → Hp → VK → Prop := fun x xs H Q => ∃ (l : Addr) (bs : List Bool) (b : Bool), x = .ref l ∧ xs = [.bl b] ∧ SqL K H l (bs.map V.bl) ∧ Q (.int (bs.count b : Nat)) H
theorem flat_bools (bs : List Bool) : (bs.map V.bl).all flatV = true := by
  rw [List.all_eq_true]
  intro x hx
  obtain ⟨b, _, rfl⟩ := List.mem_map.mp hx
  rfl
theorem count_eqU {its : List Value} {bs : List Bool} {b : Bool} {u : Value} (r : Vals (bs.map V.bl) its) (ru : RelV (.bl b) u) : its.countP (eqU (V.bl b)) = bs.count b := by
  induction bs generalizing its with
  | nil =>
    cases r
    rfl
  | cons c r2 ih =>
    cases r with
    | cons h t =>
      cases h
      cases ru
      rw [List.countP_cons, ih t, List.count_cons]
      cases c <;> cases b <;> rfl
theorem mt_cntB {X : Cx} : MtR X "list.count" (rCntB X.K) := by
  rintro pins s σ H x xs v us Q I rx rxs ⟨l, bs, b, rfl, rfl, sq, q⟩
  cases rx
  obtain ⟨u, rfl, ru⟩ := rxs.one
  obtain ⟨its, rv, ⟨⟨c1, d1, dt, sl⟩, n, ho, hc, hdn, hd⟩, hlen⟩ := I.list sq
  simp only at hc hd
  subst hc hd
  refine call_meets PySem.F.slot_list_count ⟨_, ho, rfl⟩ PySem.F.entry_list_count (PySem.F.args_list_count_2 _ _) (SeqAt.list_countAt l its.toArray n d1 sl u (eqU (V.bl b))) ⟨ho, fun y hy => mem_eqAt ru rfl rv (flat_bools bs) y (by simpa using hy), ?_⟩
  have ec : its.toArray.toList.countP (eqU (V.bl b)) = bs.count b := count_eqU rv ru
  refine ⟨.int (bs.count b : Nat), H, I.tok _, ⟨s.toks, ?_⟩, q⟩
  rw [← ec]
def whNames : List Str := ["InvalidSize", "InvalidPlace", "InvalidSet", "InvalidPosition", "InvalidNumber", "NoLine", "HasLine", "Laid", "NothingToUndo", "ParseError"]
structure WhK (K : PySem.W.Frag) (mg : Str → Option Value) (cl : List Addr) : Prop where
  few : cl.length = 10
  exc : ∀ (i : Nat) (C : Addr), cl[i]? = some C → ExcC K C
  kit : ∀ (i j : Nat) (C D : Addr), cl[i]? = some C → cl[j]? = some D → PySem.W.kitOne K (.ref C) (.ref D) = some (decide (i = j))
  kitV : ∀ (i : Nat) (C : Addr), cl[i]? = some C → PySem.W.kitOne K (.ref C) (.type "ValueError") = some true
  glo : ∀ (i : Nat) (C : Addr), cl[i]? = some C → mg (whNames.getD i "") = some (.ref C)
  isi : mg "isinstance" = none
  val : mg "ValueError" = none
def spWhich (cl : List Addr) (p : Addr × Obj) : Sp := fun vs H Q _ => ∃ (c : Nat) (C : Addr), vs = [.ref p.1] ∧ cl[c]? = some C ∧ Zc (.ref C) none p.2 ∧ (∃ vs, p.2.data = .fields vs) ∧
  ∀ (H' : Hp) (t : Addr), (∀ a o, H a = some o → H' a = some o) → H t = none → H' t = some (.tup [.str "raised", .int (c : Nat)]) → Q (.ref t) H'
def Kp (l : Addr) (H H' : Hp) : Prop := ∀ a o, H a = some o → a ≠ l → H' a = some o
theorem kp_0 (l : Addr) (H : Hp) : Kp l H H := fun _ _ h _ => h
theorem kp_l {l : Addr} {H H' : Hp} {o : HO} (k : Kp l H H') : Kp l H (upd H' l o) := fun a u h n => (upd_ne n).trans (k a u h n)
theorem kp_n {l p : Addr} {H H' : Hp} {o : HO} (k : Kp l H H') (f : H' p = none) : Kp l H (upd H' p o) := fun a u h n => (upd_ne (ne_of_none (k a u h n) f)).trans (k a u h n)
theorem pe_isP {X : Cx} {D C : Addr} {p : Addr × Obj} {b : Bool} {x : Str} {p1 p3 pos : Pos} {e : Expr} {te : TE} (mem : p ∈ X.pn) (E : ExcC X.K D) (z : Zc (.ref D) none p.2) (fl : ∃ vs, p.2.data = .fields vs) (gi : Gl X "isinstance") (mi : X.mg "isinstance" = none) (gx : Gl X x) (mx : X.mg x = some (.ref C)) (hk : PySem.W.kitOne X.K (.ref D) (.ref C) = some b) (dbg : (x == ("__debug__" : Str)) = false) (he : PE X e te)
    (he2 : starEach [e, .Name x p3] X.env = (false, eval e X.env) :: starEach [.Name x p3] X.env := by rfl) :
    PE X (.Call (.Name "isinstance" p1) [e, .Name x p3] [] pos) (tCB (rIsP X.K D p.1) (tCons te (tCons (tC (.ref C)) tNil))) :=
  pe_callB (cr_isP mem E z fl) gi mi (by decide +kernel) (pa_cons he (pa_cons (pe_glob (v := .ref C) gx mx rfl dbg) pa_nil) he2) (he := he2)
theorem pe_isV {X : Cx} {D : Addr} {p : Addr × Obj} {p1 p3 pos : Pos} {e : Expr} {te : TE} (mem : p ∈ X.pn) (E : ExcC X.K D) (z : Zc (.ref D) none p.2) (fl : ∃ vs, p.2.data = .fields vs) (gi : Gl X "isinstance") (mi : X.mg "isinstance" = none) (gx : Gl X "ValueError") (mx : X.mg "ValueError" = none) (he : PE X e te)
    (he2 : starEach [e, .Name "ValueError" p3] X.env = (false, eval e X.env) :: starEach [.Name "ValueError" p3] X.env := by rfl) :
    PE X (.Call (.Name "isinstance" p1) [e, .Name "ValueError" p3] [] pos) (tCB (rIsP X.K D p.1) (tCons te (tCons (tC (.ty "ValueError")) tNil))) :=
  pe_callB (cr_isP mem E z fl) gi mi (by decide +kernel) (pa_cons he (pa_cons (pe_bltn (v := .ty "ValueError") gx mx (by decide +kernel) rfl (by decide +kernel) (by decide +kernel)) pa_nil) he2) (he := he2)
/-- what a try leans on: the def that names the error, the class that is caught -/
def noCX : CXT := fun _ _ _ _ _ _ => False
structure HotW (P : Program) (w : World) (K : PySem.W.Frag) (mg : Str → Option Value) (base : Heap) (cl : List Addr) : Prop where
  few : cl.length = 10
  fn : ∃ (f : Addr) (fd : FuncData), HotFn P w K mg base noCX 1 f fd ["_law_e"] (spWhich cl) ∧ mg "_law_which" = some (.ref f) ∧ PySem.W.keepIn K (.ref f) = true ∧ Binds K fd ["_law_e"] []
  err : ∃ C : Addr, mg "LineError" = some (.ref C) ∧ ∀ (i : Nat) (D : Addr), cl[i]? = some D → PySem.W.exmOne K (.ref D) (.ref C) = some true
end PD

set_option Elab.async false
set_option linter.all false
set_option maxRecDepth 100000
set_option maxHeartbeats 2000000
/-! Statements: the checker, the readings. -/
namespace PD
open PySem PySem.Spec PyProof.Rows L2
/-- a comprehension stored on its own line swaps -/
def swapB (sc : Scope) (x : Str) (px : Pos) : Expr → Bool
  | .ListComp _ _ scope pos => decide (sc.names.lookup x = some .local) && (px.line == pos.line) && !(scope.names.any fun (n, k) => n == x && (k == .local || k == .cell))
  | _ => false
def noComp : Expr → Bool
  | .ListComp .. => false
  | .SetComp .. => false
  | .DictComp .. => false
  | _ => true
/-- a, b = x, y: stored from the right -/
def swpYes (sc : Scope) (x : Str) (px : Pos) (y : Str) (py : Pos) (a b : Expr) : Bool :=
  decide (sc.names.lookup x = some .local) && decide (sc.names.lookup y = some .local) && (py.line == px.line) && !(x == y) && unst a && unst b && !(foldedForSure 8 a && foldedForSure 8 b) && !(constantsAlone 8 a && constantsAlone 8 b)
def swpNo (sc : Scope) (x : Str) (px : Pos) (y : Str) (py : Pos) (a b : Expr) : Bool :=
  unst a && unst b && (!decide (sc.names.lookup x = some .local) || !decide (sc.names.lookup y = some .local) || (decide (sc.names.lookup x = some .local) && decide (sc.names.lookup y = some .local) && (py.line == px.line) && !(x == y) && (foldedForSure 8 a && foldedForSure 8 b)))
mutual
def chkS (c : Cc) (sc : Scope) : IS → Stmt → Bool
  | .pass, s => match s with
    | .Pass _ => true
    | _ => false
  | .set i e, s => match s with
    | .Assign [.Name x px] e' p => (slot c i x && isOwn sc x && (noComp e' || (match e' with
      | .ListComp .. => true
      | _ => false))) && chkE c sc e e'
    | _ => false
  | .set2 i j a b, s => match s with
    | .Assign [.Tuple [.Name x px, .Name y py] _ _] (.Tuple [a', b'] _ _) _ => (slot c i x && isOwn sc x && slot c j y && isOwn sc y && !decide (i = j) && unst a' && unst b' && (swpYes sc x px y py a' b' || swpNo sc x px y py a' b')) && (chkE c sc a a' && chkE c sc b b')
    | _ => false
  | .set3 .., _ => false
  | .setIx o k v, s => match s with
    | .Assign [.Subscript o' k' _] v' _ => (noSlc k' && chkE c sc v v') && (chkE c sc o o' && chkE c sc k k')
    | _ => false
  | .aug i e, s => match s with
    | .AugAssign (.Name x _) op e' _ => (slot c i x && isOwn sc x && decide (op = .Add)) && chkE c sc e e'
    | _ => false
  | .exp e, s => match s with
    | .Expr e' _ => noComp e' && chkE c sc e e'
    | _ => false
  | .ife t a b, s => match s with
    | .If t' a' b' _ => (!isIf t && chkE c sc t t') && (chkB c sc a a' && chkB c sc b b')
    | _ => false
  | .whl t a, s => match s with
    | .While t' a' [] _ => (!isIf t && chkE c sc t t') && chkB c sc a a'
    | _ => false
  | .for_ tg it a, s => match s with
    | .For tg' it' a' [] _ => (chkTg c sc tg tg' && chkI c sc it it' (pairT tg')) && chkB c sc a a'
    | _ => false
  | .ret e, s => match s with
    | .Return (some e') _ => chkE c sc e e'
    | _ => false
  | .retN, s => match s with
    | .Return none _ => true
    | _ => false
  | .rais k, s => match s with
    | .Raise (some (.Call (.Name x _) [.Constant (.str _) _ _] [] _)) none _ => decide (c.exs[k]? = some x) && isGl sc x && !(x == "__debug__")
    | _ => false
  | .tryW a, s => match s with
    | .Try body [.ExceptHandler (some (.Name x _)) (some n) [.Return (some (.Call (.Name y _) [.Name n2 _] [] _)) _] _] [] [] _ => (decide (x = "LineError") && isGl sc "LineError" && decide (y = "_law_which") && isGl sc "_law_which" && decide (n2 = n) && decide (sc.names.lookup n = some .local) && !(n == "__debug__") && !(n == "__classdict__") && decide (n ∈ c.N) && decide (("_law_which" : Str) ∈ c.fns)) && chkB c sc a body
    | _ => false
  | .hole, _ => false
def chkB (c : Cc) (sc : Scope) : IB → List Stmt → Bool
  | .nil, ss => match ss with
    | [] => true
    | _ => false
  | .cons s b, ss => match ss with
    | s' :: r => chkS c sc s s' && chkB c sc b r
    | _ => false
end
section
variable (X : Cx) (G : List Fn) (cl : List Addr) (W : WX) (n : Nat)
def OkF (M : List Addr) (H : Hp) (r : F) (D : Ends) : Prop := match r with
  | .nx env st => ∀ M' H' σ', Ext M H M' H' → SR X M' H' st → EnvR (Fz M' H') M' env σ' → σ'.length = n → D.nx σ' H'
  | .ret v st => ∀ M' H' x, Ext M H M' H' → SR X M' H' st → EVr (Fz M' H') M' x v → D.rt x H'
  | .exc k st => ∀ M' H' σ', Ext M H M' H' → SR X M' H' st → σ'.length = n → wX cl W σ' k H'
  | .err => False
def tS (s : IS) : TS := fun D σ H => ∃ M env st, SR X M H st ∧ EnvR (Fz M H) M env σ ∧ σ.length = n ∧ OkF X cl W n M H (ex G s env st) D
def tBk (b : IB) : TS := fun D σ H => ∃ M env st, SR X M H st ∧ EnvR (Fz M H) M env σ ∧ σ.length = n ∧ OkF X cl W n M H (exB G b env st) D
structure ExFact (C : Addr) (x : Str) : Prop where
  at_ : ∃ (bmB : List Value) (B newId initId : String), ExcBaseFacts B newId initId bmB ∧ PySem.W.excIn X.K C bmB newId = true ∧ X.mg x = some (.ref C) ∧ PySem.W.keepIn X.K (.ref C) = true ∧ Raises X (.ref C)
structure GdS (c : Cc) (sc : Scope) : Prop where
  gd : Gd X G cl W c sc
  kind : sc.kind = .function
  own : ∀ x, isOwn sc x = true → X.fn x = true ∨ X.env.scope.names.lookup x = some .local
  pass : PassesOwn (model X.prog X.w) X.A X.env X.xe
  exs : ∀ (k : Nat) (x : Str), c.exs[k]? = some x → ∃ C, cl[k]? = some C ∧ ExFact X C x
  stk : X.stack = X.env :: X.outer
  frm : X.env.frame = some X.env.locals
  hot : ("_law_which" : Str) ∈ c.fns → HotW X.prog X.w X.K X.mg X.base cl ∧ L2H.RoomH 1 X.A
end
section
variable {X : Cx} {G : List Fn} {cl : List Addr} {W : WX} {c : Cc} {sc : Scope} {n : Nat} {M M' : List Addr} {H H' : Hp} {D : Ends} {σ : L2.St} {env : Env} {st : Store}
theorem OkF.ext {r : F} (x : Ext M H M' H') (h : OkF X cl W n M H r D) : OkF X cl W n M' H' r D := by
  cases r with
  | nx env st => exact fun M2 H2 u x2 S2 r2 l => h M2 H2 u (x.trans x2) S2 r2 l
  | ret v st => exact fun M2 H2 u x2 S2 r2 => h M2 H2 u (x.trans x2) S2 r2
  | exc k st => exact fun M2 H2 u x2 S2 l => h M2 H2 u (x.trans x2) S2 l
  | err => exact h
theorem tE_stepF {a : IE} {k : EV → Store → F} {Q' : VK} (S : SR X M H st) (V : EnvR (Fz M H) M env σ) (hn : σ.length = n) (ok : OkF X cl W n M H ((ev G a env st).toF k) D)
    (hq : ∀ M1 H1 st1 x v, Ext M H M1 H1 → SR X M1 H1 st1 → EVr (Fz M1 H1) M1 x v → EnvR (Fz M1 H1) M1 env σ → OkF X cl W n M1 H1 (k v st1) D → Q' x H1) : tE X G cl W a σ H Q' := by
  refine ⟨M, env, st, S, V, ?_⟩
  cases e : ev G a env st with
  | ok v st1 =>
    rw [e] at ok
    exact fun M1 H1 x xx S1 r => hq M1 H1 st1 x v xx S1 r (V.ext xx) (OkF.ext xx ok)
  | exc k st1 =>
    rw [e] at ok
    exact fun M1 H1 xx S1 => ok M1 H1 σ xx S1 hn
  | err =>
    rw [e] at ok
    exact ok
theorem tI_stepF {a : II} {k : Items → Store → F} {Q' : It → Hp → Prop} (S : SR X M H st) (V : EnvR (Fz M H) M env σ) (hn : σ.length = n) (ok : OkF X cl W n M H ((evI G a env st).toF k) D)
    (hq : ∀ M1 H1 st1 J its, Ext M H M1 H1 → SR X M1 H1 st1 → Wk X M1 H1 its J → EnvR (Fz M1 H1) M1 env σ → OkF X cl W n M1 H1 (k its st1) D → Q' J H1) : tI X G cl W a σ H Q' := by
  refine ⟨M, env, st, S, V, ?_⟩
  cases e : evI G a env st with
  | ok v st1 =>
    rw [e] at ok
    exact fun M1 H1 x xx S1 r => hq M1 H1 st1 x v xx S1 r.1 (V.ext xx) (OkF.ext xx ok)
  | exc k st1 =>
    rw [e] at ok
    exact fun M1 H1 xx S1 => ok M1 H1 σ xx S1 hn
  | err =>
    rw [e] at ok
    exact ok
/-- one statement, then the rest -/
theorem tS_step {r : F} {k : Env → Store → F} {N : L2.St → Hp → Prop} {b2 c2 : L2.St → Hp → Prop} (ok : OkF X cl W n M H (r.bind k) D)
    (hq : ∀ M1 H1 st1 σ1 env1, Ext M H M1 H1 → SR X M1 H1 st1 → EnvR (Fz M1 H1) M1 env1 σ1 → σ1.length = n → OkF X cl W n M1 H1 (k env1 st1) D → N σ1 H1) : OkF X cl W n M H r ⟨N, D.rt, b2, c2⟩ := by
  cases r with
  | nx env1 st1 => exact fun M1 H1 σ1 xx S1 V1 l => hq M1 H1 st1 σ1 env1 xx S1 V1 l (OkF.ext xx ok)
  | ret v st1 => exact ok
  | exc k st1 => exact ok
  | err => exact ok
theorem set_len {i : Nat} {v : Option V} (h : σ.length = n) : (σ.set i v).length = n := by rw [List.length_set]; exact h
theorem swaps_no {e : Expr} {t : Option Expr} {l : Nat} {env : PySem.Env} (h : noComp e = true) : swapsWith e t l env = pure false := by
  cases e <;> first
    | rfl
    | cases h
theorem f_pass {p : Pos} : PS X (.Pass p) (tS X G cl W n .pass) := PS.imp ps_pass fun D σ H ⟨M, env, st, S, V, l, ok⟩ => by
  unfold ex at ok
  exact ok M H σ (Ext.refl _ _) S V l
theorem set_reads {i : Nat} {e : IE} (h : tS X G cl W n (.set i e) D σ H) : tE X G cl W e σ H fun x H1 => gName i x σ H1 D.nx := by
  obtain ⟨M, env, st, S, V, l, ok⟩ := h
  unfold ex at ok
  exact tE_stepF S V l ok fun M1 H1 st1 x v x1 S1 r1 V1 ok1 => ok1 M1 H1 _ (Ext.refl _ _) S1 (V1.set r1 i) (set_len l)
theorem f_set {i : Nat} {e : IE} {x : Str} {px p : Pos} {e' : Expr} (g : GdS X G cl W c sc) (hi : slot c i x = true) (ho : isOwn sc x = true) (hc : noComp e' = true) (he : Snd X G cl W e e') : PS X (.Assign [.Name x px] e' p) (tS X G cl W n (.set i e)) :=
  PS.imp (ps_set (i := i) g.gd.nd (g.gd.at hi) (g.gd.loc ho) he.pe (swaps_no hc) (g.own x ho)) fun D σ H q => set_reads q
theorem blk_fun {env : PySem.Env} (h : env.scope.kind = .function) : env.blockKind = .function := by
  unfold PySem.Env.blockKind
  rw [h]
  rfl
theorem swaps_val {el : Expr} {gs : List Comprehension} {scope : Scope} {pos px : Pos} {x : Str} {l : Nat} {env : PySem.Env} (hk : env.scope.kind = .function) :
    swapsWith (.ListComp el gs scope pos) (some (.Name x px)) l env = pure (swapB env.scope x px (.ListComp el gs scope pos)) := by
  have e1 : (env.kindOf x == some NameKind.local) = decide (env.scope.names.lookup x = some .local) := by
    show (env.scope.names.lookup x == some NameKind.local) = _
    by_cases h : env.scope.names.lookup x = some .local
    · rw [h]; decide
    · rw [decide_eq_false h]
      exact beq_eq_false_iff_ne.mpr h
  show (pure (env.blockKind == ScopeKind.function && env.kindOf x == some NameKind.local && px.line == (Expr.ListComp el gs scope pos).pos.line && !(scope.names.any fun (n, k) => n == x && (k == .local || k == .cell))) : Sem Bool) = _
  rw [blk_fun hk, e1]
  rfl
theorem f_setC {i : Nat} {own : List Nat} {tg : Tg} {it : II} {cond : IO} {e : IE} {e' tg' it' : Expr} {ifs : List Expr} {scope : Scope} {x : Str} {px pos p : Pos} (g : GdS X G cl W c sc) (hi : slot c i x = true) (ho : isOwn sc x = true) (h : CompOk X G cl W c own tg it cond e e' tg' it' ifs scope) :
    PS X (.Assign [.Name x px] (.ListComp e' [⟨tg', it', ifs, 0⟩] scope pos) p) (tS X G cl W n (.set i (.comp own tg it cond e))) := by
  have hk : X.env.scope.kind = .function := by rw [g.gd.sc]; exact g.kind
  have sv := swaps_val (l := p.line) (el := e') (gs := [⟨tg', it', ifs, 0⟩]) (scope := scope) (pos := pos) (px := px) (x := x) hk
  cases hb : swapB X.env.scope x px (.ListComp e' [⟨tg', it', ifs, 0⟩] scope pos) with
  | true =>
    rw [hb] at sv
    have hl : X.env.scope.names.lookup x = some .local := by
      unfold swapB at hb
      simp only [Bool.and_eq_true] at hb
      exact of_decide_eq_true hb.1.1
    refine PS.imp (ps_setLc (i := i) h.calm h.nd (g.gd.at hi) hl sv h.pi h.blk h.pg h.pts h.pe h.notSet) fun D σ H q => ?_
    rw [own_map]
    exact comp_reads h.tgin (set_reads q)
  | false =>
    rw [hb] at sv
    refine PS.imp (ps_set (i := i) g.gd.nd (g.gd.at hi) (g.gd.loc ho) (s_comp (pos := pos) h).pe sv (g.own x ho)) fun D σ H q => set_reads q
theorem f_exp {e : IE} {e' : Expr} {p : Pos} (hc : noComp e' = true) (he : Snd X G cl W e e') : PS X (.Expr e' p) (tS X G cl W n (.exp e)) := by
  refine PS.imp (ps_expr he.pe (swaps_no hc)) fun D σ H ⟨M, env, st, S, V, l, ok⟩ => ?_
  unfold ex at ok
  exact tE_stepF S V l ok fun M1 H1 st1 x v x1 S1 r1 V1 ok1 => ok1 M1 H1 _ (Ext.refl _ _) S1 V1 l
theorem f_ret {e : IE} {e' : Expr} {p : Pos} (he : Snd X G cl W e e') : PS X (.Return (some e') p) (tS X G cl W n (.ret e)) := by
  refine PS.imp (ps_ret he.pe) fun D σ H ⟨M, env, st, S, V, l, ok⟩ => ?_
  unfold ex at ok
  exact tE_stepF S V l ok fun M1 H1 st1 x v x1 S1 r1 V1 ok1 => ok1 M1 H1 _ (Ext.refl _ _) S1 r1
theorem f_retN {p : Pos} : PS X (.Return none p) (tS X G cl W n .retN) := by
  refine PS.imp ps_retN fun D σ H ⟨M, env, st, S, V, l, ok⟩ => ?_
  unfold ex at ok
  exact ok M H _ (Ext.refl _ _) S .non
theorem f_aug {i : Nat} {e : IE} {x : Str} {px p : Pos} {e' : Expr} (g : GdS X G cl W c sc) (hi : slot c i x = true) (ho : isOwn sc x = true) (he : Snd X G cl W e e') : PS X (.AugAssign (.Name x px) .Add e' p) (tS X G cl W n (.aug i e)) := by
  refine PS.imp (ps_aug (i := i) g.gd.nd (g.gd.at hi) (g.gd.loc ho) he.pe ip_add (g.own x ho)) fun D σ H ⟨M, env, st, S, V, l, ok⟩ => ?_
  unfold ex at ok
  split at ok
  · rename_i m hm
    obtain ⟨y, hy, r⟩ := V.at_ i _ hm
    cases r
    refine ⟨_, hy, tE_stepF S V l ok fun M1 H1 st1 z v x1 S1 r1 V1 ok1 => ?_⟩
    split at ok1
    · rename_i k
      cases r1
      exact ⟨m, k, rfl, rfl, ok1 M1 H1 _ (Ext.refl _ _) S1 (V1.set (v := .dat (.int (m + k))) (.int _) i) (set_len l)⟩
    · exact ok1.elim
  · exact ok.elim
theorem f_setIx {o k v : IE} {o' k' v' : Expr} {p q : Pos} (g : GdS X G cl W c sc) (hs : noSlc k' = true) (ho : Snd X G cl W o o') (hk : Snd X G cl W k k') (hv : Snd X G cl W v v') : PS X (.Assign [.Subscript o' k' p] v' q) (tS X G cl W n (.setIx o k v)) := by
  have h1 : swapsWithSole [.Subscript o' k' p] v' q.line X.env = pure false := by
    show swapsWith v' (some (.Subscript o' k' p)) q.line X.env = pure false
    cases v' <;> rfl
  have h2 : swappedStores [.Subscript o' k' p] v' X.env = pure none := by cases v' <;> rfl
  refine PS.imp (ps_asg hv.pe (pg_sub ho.pe hk.pe (set_store (by have := g.gd.hu; omega)) fun v => by cases k' <;> first
    | rfl
    | cases hs) h1 h2) fun D σ H ⟨M, env, st, S, V, l, ok⟩ => ?_
  unfold ex at ok
  refine tE_stepF S V l ok fun M1 H1 st1 x a x1 S1 r1 V1 ok1 => tE_stepF S1 V1 l ok1 fun M2 H2 st2 y b x2 S2 r2 V2 ok2 => tE_stepF S2 V2 l ok2 fun M3 H3 st3 z d x3 S3 r3 V3 ok3 => ?_
  split at ok3
  · rename_i st4 e4
    exact ⟨M3, st3, a, b, d, st4, S3, ev_on r1 (x2.trans x3), ev_on r2 x3, r3, e4, fun M4 H4 x4 S4 => ok3 M4 H4 _ x4 S4 (V3.ext x4) l⟩
  · exact ok3.elim
theorem f_if {t : IE} {a b : IB} {t' : Expr} {a' b' : List Stmt} {p : Pos} (it : isIf t = false) (ht : Snd X G cl W t t') (ha : PSs X a' (tBk X G cl W n a)) (hb : PSs X b' (tBk X G cl W n b)) : PS X (.If t' a' b' p) (tS X G cl W n (.ife t a b)) := by
  refine PS.imp (ps_if (ht.pt it) ha hb) fun D σ H ⟨M, env, st, S, V, l, ok⟩ => ?_
  unfold ex at ok
  refine tE_stepF S V l ok fun M1 H1 st1 x v x1 S1 r1 V1 ok1 => ?_
  split at ok1
  · cases r1
    exact ⟨true, rfl, (if_pos rfl).mpr ⟨M1, env, st1, S1, V1, l, ok1⟩⟩
  · cases r1
    exact ⟨false, rfl, (if_neg Bool.false_ne_true).mpr ⟨M1, env, st1, S1, V1, l, ok1⟩⟩
  · exact ok1.elim
theorem f_while {t : IE} {a : IB} {t' : Expr} {a' : List Stmt} {p : Pos} (g : GdS X G cl W c sc) (it : isIf t = false) (ht : Snd X G cl W t t') (ha : PSs X a' (tBk X G cl W n a)) : PS X (.While t' a' [] p) (tS X G cl W n (.whl t a)) := by
  refine PS.imp (ps_while g.pass (ht.pt it) ha) fun D σ H ⟨M, env, st, S, V, l, ok⟩ => ?_
  unfold ex at ok
  refine ⟨fun m σ H => ∃ M env st, SR X M H st ∧ EnvR (Fz M H) M env σ ∧ σ.length = n ∧ OkF X cl W n M H (whileL (fun env1 st1 => ev G t env1 st1) (fun env1 st1 => exB G a env1 st1) m env st) D, ⟨fuel, M, env, st, S, V, l, ok⟩, ?_⟩
  rintro m σ H ⟨M, env, st, S, V, l, ok⟩
  cases m with
  | zero => exact ok.elim
  | succ m =>
    unfold whileL at ok
    refine tE_stepF S V l ok fun M1 H1 st1 x v x1 S1 r1 V1 ok1 => ?_
    split at ok1
    · cases r1
      refine ⟨true, rfl, (if_pos rfl).mpr ⟨_, fun σ' H' q => ⟨m, Nat.lt_succ_self m, q⟩, M1, env, st1, S1, V1, l, ?_⟩⟩
      exact tS_step ok1 fun M2 H2 st2 σ2 env2 x2 S2 V2 l2 ok2 => ⟨M2, env2, st2, S2, V2, l2, ok2⟩
    · cases r1
      exact ⟨false, rfl, (if_neg Bool.false_ne_true).mpr (ok1 M1 H1 _ (Ext.refl _ _) S1 V1 l)⟩
    · exact ok1.elim
theorem f_for {tg : Tg} {it : II} {a : IB} {tg' it' : Expr} {a' : List Stmt} {p : Pos} (g : GdS X G cl W c sc) (hi : PI X tg' it' (tI X G cl W it)) (hg : PG X tg' (tG tg)) (ha : PSs X a' (tBk X G cl W n a)) (hs : ∀ x, foldedSetIterable it' X.env x = pure x) : PS X (.For tg' it' a' [] p) (tS X G cl W n (.for_ tg it a)) := by
  refine PS.imp (ps_for g.pass g.gd.calm hi hg ha hs) fun D σ H ⟨M, env, st, S, V, l, ok⟩ => ?_
  unfold ex at ok
  refine tI_stepF S V l ok fun M1 H1 st1 J its x1 S1 wk V1 ok1 => ?_
  let body : PyData → Env → Store → F := fun d env1 st2 => match bindT tg env1 d with
    | some env2 => exB G a env2 st2
    | none => .err
  refine ⟨fun i m σ H => m = its.ds.length - i ∧ i ≤ its.ds.length ∧ ∃ M2 env2 st2, Ext M1 H1 M2 H ∧ SR X M2 H st2 ∧ EnvR (Fz M2 H) M2 env2 σ ∧ σ.length = n ∧ OkF X cl W n M2 H (forL (guardOk its.src) body (its.ds.drop i) env2 st2) D, ⟨_, rfl, Nat.zero_le _, M1, env, st1, Ext.refl _ _, S1, V1, l, by rw [List.drop_zero]; exact ok1⟩, ?_⟩
  rintro i m σ2 H2 ⟨rfl, hle, M2, env2, st2, x2, S2, V2, l2, ok2⟩
  by_cases hlt : i < its.ds.length
  · rw [List.drop_eq_getElem_cons hlt] at ok2
    unfold forL at ok2
    split at ok2
    case isFalse => exact ok2.elim
    rename_i hgd
    refine .inr ⟨wk.go i M2 H2 st2 x2 S2 hgd hlt, fun σ' H' => ∃ M3 env3 st3, Ext M1 H1 M3 H' ∧ SR X M3 H' st3 ∧ EnvR (Fz M3 H') M3 env3 σ' ∧ σ'.length = n ∧ OkF X cl W n M3 H' (forL (guardOk its.src) body (its.ds.drop (i + 1)) env3 st3) D, fun σ' H' q => ⟨_, by omega, rfl, hlt, q⟩, fun x H3 hy => ?_⟩
    obtain ⟨x3, S3, rx⟩ := wk.yld i its.ds[i] M2 H2 st2 x H3 x2 S2 hgd (List.getElem?_eq_getElem hlt) hy
    have V3 := V2.ext x3
    cases hb : bindT tg env2 its.ds[i] with
    | none =>
      have e : body its.ds[i] env2 st2 = .err := by
        show (match bindT tg env2 its.ds[i] with
          | some env2 => exB G a env2 st2
          | none => F.err) = .err
        rw [hb]
      rw [e] at ok2
      exact ok2.elim
    | some env3 =>
      have e : body its.ds[i] env2 st2 = exB G a env3 st2 := by
        show (match bindT tg env2 its.ds[i] with
          | some env2 => exB G a env2 st2
          | none => F.err) = _
        rw [hb]
      rw [e] at ok2
      refine ⟨M2, env2, env3, _, V3, rx, hb, fun σ4 V4 _ l4 => ⟨M2, env3, st2, S3, V4, by rw [l4]; exact l2, ?_⟩⟩
      exact tS_step (OkF.ext x3 ok2) fun M5 H5 st5 σ5 env5 x5 S5 V5 l5 ok5 => ⟨M5, env5, st5, (x2.trans x3).trans x5, S5, V5, l5, ok5⟩
  · have e1 : i = its.ds.length := by omega
    subst e1
    rw [List.drop_length] at ok2
    unfold forL at ok2
    split at ok2
    case isFalse => exact ok2.elim
    rename_i hgd
    exact .inl ⟨wk.stop M2 H2 st2 x2 S2 hgd, ok2 M2 H2 _ (Ext.refl _ _) S2 V2 l2⟩
/-! ### a, b = x, y -/
theorem lk_beq {env : PySem.Env} {x : Str} : (env.kindOf x == some NameKind.local) = decide (env.scope.names.lookup x = some .local) := by
  show (env.scope.names.lookup x == some NameKind.local) = _
  by_cases h : env.scope.names.lookup x = some .local
  · rw [h]; decide
  · rw [decide_eq_false h]
    exact beq_eq_false_iff_ne.mpr h
def isSt : Expr → Bool
  | .Starred .. => true
  | _ => false
theorem not_star {e : Expr} (h : unst e = true) : isSt e = false := by
  cases e <;> first
    | rfl
    | cases h
def twoNames (env : PySem.Env) (x : Str) (px : Pos) (y : Str) (py : Pos) : List Str := [Expr.Name x px, Expr.Name y py].filterMap fun
  | .Name id pos => if env.kindOf id == some .local && pos.line == px.line then some id else none
  | _ => none
theorem swp_two {env : PySem.Env} {x y : Str} {px py pt pt2 : Pos} {k k2 : Nat} {a b : Expr} : swappedStores [.Tuple [.Name x px, .Name y py] k pt] (.Tuple [a, b] k2 pt2) env =
    (if env.blockKind != .function then pure none else if isSt a || (isSt b || false) then pure none else if (twoNames env x px y py).length != 2 || (twoNames env x px y py).eraseDups.length != (twoNames env x px y py).length then pure none
      else if foldedForSure 8 a && (foldedForSure 8 b && true) then pure none else if constantsAlone 8 a && (constantsAlone 8 b && true) then (do unsupported "assign.tuple-of-constant-expressions:order-of-the-stores"; pure (some (twoNames env x px y py))) else pure (some (twoNames env x px y py))) := by
  rfl
theorem two_names {env : PySem.Env} {x y : Str} {px py : Pos} {p q l : Bool} (hx : (env.kindOf x == some NameKind.local) = p) (hy : (env.kindOf y == some NameKind.local) = q) (hl : (py.line == px.line) = l) :
    twoNames env x px y py = (if p then [x] else []) ++ (if q && l then [y] else []) := by
  have hp : (px.line == px.line) = true := beq_self_eq_true _
  unfold twoNames
  simp only [List.filterMap_cons, List.filterMap_nil, hx, hy, hl, hp, Bool.and_true]
  cases p <;> cases q <;> cases l <;> rfl
theorem swp_yes {env : PySem.Env} {x y : Str} {px py pt pt2 : Pos} {k k2 : Nat} {a b : Expr} (hk : env.scope.kind = .function) (h : swpYes env.scope x px y py a b = true) :
    swappedStores [.Tuple [.Name x px, .Name y py] k pt] (.Tuple [a, b] k2 pt2) env = pure (some [x, y]) := by
  unfold swpYes at h
  simp only [Bool.and_eq_true] at h
  obtain ⟨⟨⟨⟨⟨⟨⟨h1, h2⟩, h3⟩, h4⟩, h5⟩, h6⟩, h7⟩, h8⟩ := h
  have bk : (env.blockKind != .function) = false := by rw [blk_fun hk]; rfl
  have ne : (x == y) = false := not_eq h4
  have ne2 : (y == x) = false := by
    rw [beq_eq_false_iff_ne] at ne ⊢
    exact fun e => ne e.symm
  have ed : ([x, y] : List Str).eraseDups.length = 2 := by simp [List.eraseDups, List.eraseDupsBy, List.eraseDupsBy.loop, ne2]
  have tn : twoNames env x px y py = [x, y] := two_names (p := true) (q := true) (l := true) (by rw [lk_beq]; exact h1) (by rw [lk_beq]; exact h2) h3
  have f7 : (foldedForSure 8 a && (foldedForSure 8 b && true)) = false := by rw [Bool.and_true]; exact not_eq h7
  have f8 : (constantsAlone 8 a && (constantsAlone 8 b && true)) = false := by rw [Bool.and_true]; exact not_eq h8
  rw [swp_two, bk, not_star h5, not_star h6, tn, ed, f7, f8]
  rfl
theorem swp_no {env : PySem.Env} {x y : Str} {px py pt pt2 : Pos} {k k2 : Nat} {a b : Expr} (hk : env.scope.kind = .function) (h : swpNo env.scope x px y py a b = true) :
    swappedStores [.Tuple [.Name x px, .Name y py] k pt] (.Tuple [a, b] k2 pt2) env = pure none := by
  unfold swpNo at h
  simp only [Bool.and_eq_true] at h
  obtain ⟨⟨h5, h6⟩, h⟩ := h
  have bk : (env.blockKind != .function) = false := by rw [blk_fun hk]; rfl
  cases e1 : decide (env.scope.names.lookup x = some .local) with
  | false =>
    cases e3 : (py.line == px.line) <;> cases e2 : (env.kindOf y == some NameKind.local) <;>
      (rw [swp_two, bk, not_star h5, not_star h6, two_names (p := false) (by rw [lk_beq]; exact e1) e2 e3]; rfl)
  | true =>
    cases e2 : decide (env.scope.names.lookup y = some .local) with
    | false =>
      cases e3 : (py.line == px.line) <;> (rw [swp_two, bk, not_star h5, not_star h6, two_names (p := true) (q := false) (by rw [lk_beq]; exact e1) (by rw [lk_beq]; exact e2) e3]; rfl)
    | true =>
      rw [e1, e2] at h
      simp only [Bool.not_true, Bool.or_self, Bool.false_or, Bool.true_and, Bool.and_eq_true] at h
      obtain ⟨⟨h3, h4⟩, h7, h8⟩ := h
      have ne : (x == y) = false := not_eq h4
      have ne2 : (y == x) = false := by
        rw [beq_eq_false_iff_ne] at ne ⊢
        exact fun e => ne e.symm
      have ed : ([x, y] : List Str).eraseDups.length = 2 := by simp [List.eraseDups, List.eraseDupsBy, List.eraseDupsBy.loop, ne2]
      have tn : twoNames env x px y py = [x, y] := two_names (p := true) (q := true) (l := true) (by rw [lk_beq]; exact e1) (by rw [lk_beq]; exact e2) h3
      rw [swp_two, bk, not_star h5, not_star h6, tn, ed, h7, h8]
      rfl
theorem f_set2 {i j : Nat} {a b : IE} {x y : Str} {px py pt pt2 p : Pos} {k k2 : Nat} {a' b' : Expr} (g : GdS X G cl W c sc) (hi : slot c i x = true) (ho : isOwn sc x = true) (hj : slot c j y = true) (ho2 : isOwn sc y = true) (hij : i ≠ j) (ua : unst a' = true) (ub : unst b' = true)
    (hs : (swpYes sc x px y py a' b' || swpNo sc x px y py a' b') = true) (ha : Snd X G cl W a a') (hb : Snd X G cl W b b') : PS X (.Assign [.Tuple [.Name x px, .Name y py] k pt] (.Tuple [a', b'] k2 pt2) p) (tS X G cl W n (.set2 i j a b)) := by
  have hk : X.env.scope.kind = .function := by rw [g.gd.sc]; exact g.kind
  have two : PA X [a', b'] (tCons (tE X G cl W a) (tCons (tE X G cl W b) tNil)) := pa_cons ha.pe (pa_cons hb.pe pa_nil (star_cons ub)) (star_cons ua)
  have reads : ∀ {D : Ends} {σ : L2.St} {H : Hp}, tS X G cl W n (.set2 i j a b) D σ H → tCons (tE X G cl W a) (tCons (tE X G cl W b) tNil) σ H fun vs H1 => ∃ v w, vs = [v, w] ∧ D.nx ((σ.set i (some v)).set j (some w)) H1 ∧ ∀ q, H1 q = none → D.nx ((σ.set i (some v)).set j (some w)) (upd H1 q (.tup [v, w])) := fun {D σ H} ⟨M, env, st, S, V, l, ok⟩ => by
    unfold ex at ok
    refine tE_stepF S V l ok fun M1 H1 st1 v a x1 S1 r1 V1 ok1 => tE_stepF S1 V1 l ok1 fun M2 H2 st2 w b x2 S2 r2 V2 ok2 => ?_
    have V3 := (V2.set (ev_on r1 x2) i).set r2 j
    refine ⟨v, w, rfl, ok2 M2 H2 _ (Ext.refl _ _) S2 V3 (set_len (set_len l)), fun q hq => ?_⟩
    have xq : Ext M2 H2 M2 (upd H2 q (.tup [v, w])) := Ext.new hq
    exact ok2 M2 _ _ xq (S2.new hq) (V3.ext xq) (set_len (set_len l))
  cases hy : swpYes sc x px y py a' b' with
  | true =>
    have q := hy
    unfold swpYes at q
    simp only [Bool.and_eq_true] at q
    obtain ⟨⟨⟨⟨⟨⟨⟨q1, q2⟩, _⟩, _⟩, _⟩, _⟩, _⟩, _⟩ := q
    have lx : X.env.scope.names.lookup x = some .local := by rw [g.gd.sc]; exact of_decide_eq_true q1
    have ly : X.env.scope.names.lookup y = some .local := by rw [g.gd.sc]; exact of_decide_eq_true q2
    refine PS.imp (ps_par (i := i) (j := j) g.gd.calm g.gd.nd (g.gd.at hi) (g.gd.at hj) hij lx ly two (swp_yes hk (by rw [g.gd.sc]; exact hy)) rfl) fun D σ H q => ?_
    obtain ⟨M, env, st, S, V, l, ok⟩ := q
    obtain ⟨M1, e1, st1, S1, V1, ok1⟩ := reads ⟨M, env, st, S, V, l, ok⟩
    exact ⟨M1, e1, st1, S1, V1, OkG.imp ok1 (fun v H1 z => tE.mono z fun w H2 ⟨v', w', e, z, _⟩ => ⟨v', w', e, z⟩) fun _ _ z => z⟩
  | false =>
    rw [hy, Bool.false_or] at hs
    refine PS.imp (ps_asg (pe_tup two) (pg_tup (n := 2) g.gd.calm (pgs_cons (pg_name (i := i) g.gd.nd (g.gd.at hi) (g.gd.loc ho) (g.own x ho)) (pgs_cons (pg_name (i := j) g.gd.nd (g.gd.at hj) (g.gd.loc ho2) (g.own y ho2)) pgs_nil))) rfl (swp_no hk (by rw [g.gd.sc]; exact hs))) fun D σ H q => ?_
    obtain ⟨M1, e1, st1, S1, V1, ok1⟩ := reads q
    refine ⟨M1, e1, st1, S1, V1, OkG.imp ok1 (fun v H1 z => tE.mono z fun w H2 ⟨v', w', e, _, z⟩ => ?_) fun _ _ z => z⟩
    cases e
    exact ⟨(by decide : 2 ≤ sizeLine), fun q hq => ⟨q, _, rfl, SqT.of upd_same, rfl, v, [w], rfl, w, [], rfl, rfl, z q hq⟩⟩
theorem f_raise {k : Nat} {x m : Str} {j : Nat} {p1 p2 p3 p : Pos} (g : GdS X G cl W c sc) (hx : c.exs[k]? = some x) (hg : isGl sc x = true) (hd : (x == ("__debug__" : Str)) = false) : PS X (.Raise (some (.Call (.Name x p1) [.Constant (.str m) j p2] [] p3)) none p) (tS X G cl W n (.rais k)) := by
  obtain ⟨C, hC, ⟨bmB, B, newId, initId, F, q, gC, kC, r⟩⟩ := g.exs k x hx
  refine PS.imp (L2N.ps_raise g.gd.calm g.gd.tk (L2N.pmk_own F q gC kC r (g.gd.gl hg) hd)) fun D σ H ⟨M, env, st, S, V, l, ok⟩ => ?_
  unfold ex at ok
  obtain ⟨C', h1, h2⟩ := ok M H σ (Ext.refl _ _) S l
  rw [hC] at h1
  cases h1
  exact h2
/-- the same context within a try -/
theorem GdS.tr (g : GdS X G cl W c sc) {W' : WX} {pn : List (Addr × Obj)} {xe : Value → Shared → Prop} (tk : L2N.Takes (X.tr pn xe) W') (ps : PassesOwn (model X.prog X.w) X.A X.env xe) : GdS (X.tr pn xe) G cl W' c sc :=
  ⟨⟨g.gd.N, g.gd.nd, g.gd.sc, g.gd.calm, g.gd.hu, tk, fun i x h => by
      obtain ⟨f, h1, h2, ⟨q⟩⟩ := g.gd.fns i x h
      exact ⟨f, h1, h2, ⟨q⟩⟩, g.gd.blt⟩, g.kind, g.own, ps, fun k x h => by
      obtain ⟨C, h1, ⟨q⟩⟩ := g.exs k x h
      exact ⟨C, h1, ⟨q⟩⟩, g.stk, g.frm, g.hot⟩
/-- what the suite asks of the error at a -/
def tCatch (cl : List Addr) (i : Nat) (a : Addr) (cls : Value) (d : Option Addr) : TS := fun D σ H => ∃ (k : Nat) (C : Addr), σ[i]? = some (some (.ref a)) ∧ cl[k]? = some C ∧ cls = .ref C ∧ d = none ∧
  ∀ (H' : Hp) (t : Addr), (∀ a o, H a = some o → H' a = some o) → H t = none → H' t = some (.tup [.str "raised", .int (k : Nat)]) → D.rt (.ref t) H'
theorem f_try {a : IB} {body : List Stmt} {x y m m2 : Str} {p1 p2 p3 p4 p5 p6 p7 : Pos} (g : GdS X G cl W c sc) (hx : x = "LineError") (hgx : isGl sc "LineError" = true) (hy : y = "_law_which") (hgy : isGl sc "_law_which" = true) (hm : m2 = m) (hl : sc.names.lookup m = some .local)
    (hd : (m == ("__debug__" : Str)) = false) (hd2 : (m == ("__classdict__" : Str)) = false) (hN : m ∈ c.N) (hw : ("_law_which" : Str) ∈ c.fns) (hn : c.N.length ≤ n)
    (hb : ∀ (W' : WX) (pn : List (Addr × Obj)) (xe : Value → Shared → Prop), GdS (X.tr pn xe) G cl W' c sc → PSs (X.tr pn xe) body (tBk (X.tr pn xe) G cl W' n a)) :
    PS X (.Try body [.ExceptHandler (some (.Name x p1)) (some m) [.Return (some (.Call (.Name y p2) [.Name m2 p3] [] p4)) p5] p6] [] [] p7) (tS X G cl W n (.tryW a)) := by
  subst hx hy hm
  obtain ⟨⟨few, ⟨f, fd, F, mgf, kp, bd⟩, ⟨CL, mgL, sub⟩⟩, room⟩ := g.hot hw
  obtain ⟨i, hi0⟩ := List.mem_iff_getElem?.mp hN
  have hi : X.N[i]? = some m2 := by rw [g.gd.N]; exact hi0
  have hin : i < n := Nat.lt_of_lt_of_le (List.getElem?_eq_some_iff.mp hi0).1 hn
  have hk : X.env.kindOf m2 = some .local := by
    show X.env.scope.names.lookup m2 = _
    rw [g.gd.sc]
    exact hl
  refine PS.imp (L2N.ps_try_as (c := .ref CL) (i := i) (tb := fun W' => tBk X G cl W' n a) (ts := tCatch cl i) g.stk g.frm g.gd.nd hi hk ⟨g.gd.gl hgx, by decide +kernel, .inl mgL⟩ g.gd.tk (fun W' pn xe tk ps => hb W' pn xe (g.tr tk ps)) (fun e oe cls d pn hz hf => ?_)) fun D σ H ⟨M, env, st, S, V, l, ok⟩ => ?_
  · have hot : L2H.Hot1 (X.suite e ((e, oe) :: pn)).A (e, oe) := by
      obtain ⟨vs, hv⟩ := hf
      exact ⟨rfl, vs, hv, hz.2.2 vs hv⟩
    refine PSs.imp (pss_one (ps_ret (pe_hot (X := X.suite e ((e, oe) :: pn)) (E := fun _ _ _ => False) F ⟨room.dp, room.un⟩ hot List.mem_cons_self (g.gd.gl hgy) mgf kp bd (fun _ _ _ _ _ _ _ q => q.elim) (pa_cons (pv i hi (.inl hk) hd hd2) pa_nil) (by decide +kernel)))) fun D σ H q => ?_
    obtain ⟨k, C, h1, h2, h3, h4, h5⟩ := q
    subst h3 h4
    exact ⟨_, h1, k, C, rfl, h2, hz.zc, hf, h5⟩
  · refine ⟨M, env, st, S, V, l, ?_⟩
    unfold ex at ok
    cases he : exB G a env st with
    | nx env1 st1 => rw [he] at ok; exact ok
    | ret v st1 => rw [he] at ok; exact ok
    | err => rw [he] at ok; exact ok
    | exc k st1 =>
      rw [he] at ok
      dsimp only at ok
      split at ok
      · rename_i hk10
        intro M1 H1 σ1 x1 S1 l1
        have hC : cl[k]? = some (cl[k]'(by rw [few]; exact hk10)) := List.getElem?_eq_getElem _
        refine ⟨_, hC, true, sub k _ hC, fun _ e he => ⟨k, _, by rw [List.getElem?_set_self (by omega)], hC, rfl, rfl, fun H2 t kept ht htt => ?_⟩, fun q => by cases q⟩
        have x2 : Ext M1 H1 M1 H2 := Ext.sup kept
        have S2 : SR X M1 H2 st1 := S1.sup kept
        exact ok M1 H2 _ (x1.trans x2) S2 (.tup (Fz_of htt (S1.out ht)) (.cons (.str _) (.cons (.int _) .nil)))
      · exact ok.elim
end
/-! ### every statement -/
section
variable {G : List Fn} {cl : List Addr} {c : Cc}
mutual
theorem sndS : ∀ (s : IS) (s' : Stmt) (X : Cx) (W : WX) (sc : Scope) (n : Nat), c.N.length ≤ n → GdS X G cl W c sc → chkS c sc s s' = true → PS X s' (tS X G cl W n s)
  | .pass, s', X, W, sc, n, hn, g, h => by
    unfold chkS at h
    split at h
    · exact f_pass
    · cases h
  | .set i e, s', X, W, sc, n, hn, g, h => by
    unfold chkS at h
    split at h
    · simp only [Bool.and_eq_true] at h
      obtain ⟨⟨⟨h1, h2⟩, h3⟩, h4⟩ := h
      rename_i e' p
      cases hn : noComp e' with
      | true => exact f_set g h1 h2 hn (snd e e' X W sc g.gd h4)
      | false =>
        rw [hn, Bool.false_or] at h3
        split at h3
        · cases e with
          | comp own tg it cond a =>
            have h5 := h4
            unfold chkE at h5
            split at h5
            · rename_i heq
              cases heq
              exact f_setC g h1 h2 (comp_ok g.gd h4)
            · cases h5
          | _ =>
            unfold chkE at h4
            first
              | cases h4
              | (split at h4 <;> simp_all)
        · cases h3
    · cases h
  | .set2 i j a b, s', X, W, sc, n, hn, g, h => by
    unfold chkS at h
    split at h
    · simp only [Bool.and_eq_true] at h
      obtain ⟨⟨⟨⟨⟨⟨⟨⟨h1, h2⟩, h3⟩, h4⟩, h5⟩, h6⟩, h7⟩, h8⟩, h9, h10⟩ := h
      exact f_set2 g h1 h2 h3 h4 (of_decide_eq_false (not_eq h5)) h6 h7 h8 (snd a _ X W sc g.gd h9) (snd b _ X W sc g.gd h10)
    · cases h
  | .set3 .., s', X, W, sc, n, hn, g, h => by
    unfold chkS at h
    cases h
  | .setIx o k v, s', X, W, sc, n, hn, g, h => by
    unfold chkS at h
    split at h
    · simp only [Bool.and_eq_true] at h
      exact f_setIx g h.1.1 (snd o _ X W sc g.gd h.2.1) (snd k _ X W sc g.gd h.2.2) (snd v _ X W sc g.gd h.1.2)
    · cases h
  | .aug i e, s', X, W, sc, n, hn, g, h => by
    unfold chkS at h
    split at h
    · simp only [Bool.and_eq_true] at h
      obtain ⟨⟨⟨h1, h2⟩, h3⟩, h4⟩ := h
      have e := of_decide_eq_true h3
      subst e
      exact f_aug g h1 h2 (snd _ _ X W sc g.gd h4)
    · cases h
  | .exp e, s', X, W, sc, n, hn, g, h => by
    unfold chkS at h
    split at h
    · simp only [Bool.and_eq_true] at h
      exact f_exp h.1 (snd e _ X W sc g.gd h.2)
    · cases h
  | .ife t a b, s', X, W, sc, n, hn, g, h => by
    unfold chkS at h
    split at h
    · simp only [Bool.and_eq_true] at h
      exact f_if (not_eq h.1.1) (snd t _ X W sc g.gd h.1.2) (sndB a _ X W sc n hn g h.2.1) (sndB b _ X W sc n hn g h.2.2)
    · cases h
  | .whl t a, s', X, W, sc, n, hn, g, h => by
    unfold chkS at h
    split at h
    · simp only [Bool.and_eq_true] at h
      exact f_while g (not_eq h.1.1) (snd t _ X W sc g.gd h.1.2) (sndB a _ X W sc n hn g h.2)
    · cases h
  | .for_ tg it a, s', X, W, sc, n, hn, g, h => by
    unfold chkS at h
    split at h
    · simp only [Bool.and_eq_true] at h
      obtain ⟨⟨h1, h2⟩, h3⟩ := h
      exact f_for g (sndI it _ _ X W sc g.gd h2) (pg_tg g.gd.N g.gd.nd g.gd.sc g.gd.calm g.own tg _ h1 h1) (sndB a _ X W sc n hn g h3) (notSetI it _ _ h2)
    · cases h
  | .ret e, s', X, W, sc, n, hn, g, h => by
    unfold chkS at h
    split at h
    · exact f_ret (snd e _ X W sc g.gd h)
    · cases h
  | .retN, s', X, W, sc, n, hn, g, h => by
    unfold chkS at h
    split at h
    · exact f_retN
    · cases h
  | .rais k, s', X, W, sc, n, hn, g, h => by
    unfold chkS at h
    split at h
    · simp only [Bool.and_eq_true] at h
      exact f_raise g (of_decide_eq_true h.1.1) h.1.2 (not_eq h.2)
    · cases h
  | .tryW a, s', X, W, sc, n, hn, g, h => by
    unfold chkS at h
    split at h
    · simp only [Bool.and_eq_true] at h
      obtain ⟨⟨⟨⟨⟨⟨⟨⟨⟨⟨h1, h2⟩, h3⟩, h4⟩, h5⟩, h6⟩, h7⟩, h8⟩, h9⟩, h10⟩, h11⟩ := h
      exact f_try g (of_decide_eq_true h1) h2 (of_decide_eq_true h3) h4 (of_decide_eq_true h5) (of_decide_eq_true h6) (not_eq h7) (not_eq h8) (of_decide_eq_true h9) (of_decide_eq_true h10) hn fun W' pn xe g' => sndB a _ _ W' sc n hn g' h11
    · cases h
  | .hole, s', X, W, sc, n, hn, g, h => by
    unfold chkS at h
    cases h
theorem sndB : ∀ (b : IB) (ss : List Stmt) (X : Cx) (W : WX) (sc : Scope) (n : Nat), c.N.length ≤ n → GdS X G cl W c sc → chkB c sc b ss = true → PSs X ss (tBk X G cl W n b)
  | .nil, ss, X, W, sc, n, hn, g, h => by
    unfold chkB at h
    split at h
    · refine PSs.imp pss_nil fun D σ H ⟨M, env, st, S, V, l, ok⟩ => ?_
      unfold exB at ok
      exact ok M H σ (Ext.refl _ _) S V l
    · cases h
  | .cons s b, ss, X, W, sc, n, hn, g, h => by
    unfold chkB at h
    split at h
    · simp only [Bool.and_eq_true] at h
      refine PSs.imp (pss_cons (sndS s _ X W sc n hn g h.1) (sndB b _ X W sc n hn g h.2)) fun D σ H ⟨M, env, st, S, V, l, ok⟩ => ?_
      unfold exB at ok
      exact ⟨M, env, st, S, V, l, tS_step ok fun M2 H2 st2 σ2 env2 x2 S2 V2 l2 ok2 => ⟨M2, env2, st2, S2, V2, l2, ok2⟩⟩
    · cases h
end
end
end PD

set_option Elab.async false
set_option linter.all false
set_option maxRecDepth 100000
set_option maxHeartbeats 2000000
/-! A def keeps the promise that it answers as the evaluator says. -/
namespace PD
open PySem PySem.Spec PyProof.Rows L2
section
variable (P : Program) (w : World) (K : PySem.W.Frag) (mg : Str → Option Value) (base : Heap)
/-- a def that is there, at level k -/
structure FnIn (cl : List Addr) (k : Nat) (f : Fn) : Prop where
  at_ : ∃ (fa : Addr) (fd : FuncData) (ps : List Str), FnOk P w K mg base (L2N.CX P w) k fa fd ps (SpOf P w cl f) ∧ mg f.name = some (.ref fa) ∧ PySem.W.keepIn K (.ref fa) = true ∧ Binds K fd ps []
structure ExIn (C : Addr) (x : Str) : Prop where
  at_ : ∃ (bmB : List Value) (B newId initId : String), ExcBaseFacts B newId initId bmB ∧ PySem.W.excIn K C bmB newId = true ∧ mg x = some (.ref C) ∧ PySem.W.keepIn K (.ref C) = true ∧ PySem.W.subIn K (.ref C) (.type "BaseException") = some true ∧ PySem.W.typeIn K (.ref C) = some (.type "type")
/-- what a def's text may lean on: the defs before it, the errors, the built-ins -/
structure Lib (fns exs : List Str) (G : List Fn) (cl : List Addr) (k : Nat) : Prop where
  hot : ("_law_which" : Str) ∈ fns → HotW P w K mg base cl ∧ 1 ≤ k
  fns : ∀ (i : Nat) (x : Str), fns[i]? = some x → ∃ f, G[i]? = some f ∧ f.name = x ∧ FnIn P w K mg base cl k f
  blt : ∀ n ∈ bltNames, mg n = none
  exs : ∀ (i : Nat) (x : Str), exs[i]? = some x → ∃ C, cl[i]? = some C ∧ ExIn K mg C x
end
section
variable {P : Program} {w : World} {K : PySem.W.Frag} {mg : Str → Option Value} {base : Heap} {fns exs : List Str} {G : List Fn} {cl : List Addr} {k : Nat}
theorem FnIn.mono {j : Nat} {f : Fn} (h : FnIn P w K mg base cl j f) (l : j ≤ k) : FnIn P w K mg base cl k f := by
  obtain ⟨fa, fd, ps, F, r⟩ := h
  exact ⟨fa, fd, ps, F.mono l, r⟩
theorem Lib.more (L : Lib P w K mg base fns exs G cl k) {f : Fn} (hl : fns.length = G.length) (h : FnIn P w K mg base cl (k + 1) f) (hw : f.name = "_law_which" → HotW P w K mg base cl) : Lib P w K mg base (fns ++ [f.name]) exs (G ++ [f]) cl (k + 1) := by
  refine ⟨fun hm => ⟨?_, Nat.succ_pos k⟩, fun i x hx => ?_, L.blt, L.exs⟩
  · rcases List.mem_append.mp hm with hm | hm
    · exact (L.hot hm).1
    · exact hw (List.mem_singleton.mp hm).symm
  by_cases hi : i < fns.length
  · rw [List.getElem?_append_left hi] at hx
    obtain ⟨e, h1, h2, h3⟩ := L.fns i x hx
    exact ⟨e, by rw [List.getElem?_append_left (by omega)]; exact h1, h2, h3.mono (Nat.le_succ k)⟩
  · rw [List.getElem?_append_right (by omega)] at hx
    cases hj : i - fns.length with
    | zero =>
      rw [hj] at hx
      cases hx
      exact ⟨f, by rw [List.getElem?_append_right (by omega), ← hl, hj]; rfl, rfl, h⟩
    | succ j =>
      rw [hj] at hx
      simp at hx
theorem envR_start {M : List Addr} {H : Hp} {N : List Str} : ∀ {vs : List V} {args : List EV}, Paired (fun x v => EVr (Fz M H) M x v) vs args → EnvR (Fz M H) M (startE N.length args) (start N vs) := by
  intro vs args r
  have hl := Paired.length r
  refine ⟨?_, fun i v e => ?_⟩
  · unfold startE L2.start
    rw [List.length_append, List.length_append, List.length_map, List.length_map, List.length_replicate, List.length_replicate, hl]
  · unfold startE at e
    by_cases hi : i < args.length
    · rw [List.getElem?_append_left (by rw [List.length_map]; exact hi), List.getElem?_map] at e
      cases ea : args[i]? with
      | none => rw [ea] at e; cases e
      | some v' =>
        rw [ea] at e
        cases e
        have : ∃ x, vs[i]? = some x ∧ EVr (Fz M H) M x v := by
          clear hl hi
          induction r generalizing i with
          | nil => simp at ea
          | @cons x w xs ws r1 r2 ih =>
            cases i with
            | zero =>
              simp only [List.getElem?_cons_zero, Option.some.injEq] at ea
              subst ea
              exact ⟨x, rfl, r1⟩
            | succ i =>
              obtain ⟨z, h1, h2⟩ := ih i (by simpa using ea)
              exact ⟨z, by simpa using h1, h2⟩
        obtain ⟨x, h1, h2⟩ := this
        refine ⟨x, ?_, h2⟩
        unfold L2.start
        rw [List.getElem?_append_left (by rw [List.length_map, hl]; exact hi), List.getElem?_map, h1]
        rfl
    · rw [List.getElem?_append_right (by rw [List.length_map]; omega), List.getElem?_replicate] at e
      split at e <;> cases e
theorem fz_take {M : List Addr} {H : Hp} (n : Nat) : Sub (Fz M H) (Fz (M.take n) H) := fun a o h => by
  obtain ⟨h1, h2⟩ := Fz_at h
  exact Fz_of h1 fun hm => h2 (List.mem_of_mem_take hm)
/-- what a def hands back -/
theorem fin_ok {M M' : List Addr} {H H' : Hp} {st st1 : Store} {x : V} {v : EV} {Q : VK} {E : Nat → Hp → Prop} (S : SRel P w M H st) (xx : Ext M H M' H') (S1 : SRel P w M' H' st1) (r : EVr (Fz M' H') M' x v) (ok : OkE P w M H (fin st.length v st1) Q E) : Q x H' := by
  have hl : M.length = st.length := S.len
  have x2 := Ext.take S xx
  have S2 := S1.take M.length
  have sb : Sub (Fz M' H') (Fz (M'.take M.length) H') := fz_take _
  unfold fin at ok
  rw [← hl] at ok
  cases v with
  | dat d => exact ok _ _ _ x2 S2 (Dr.sub sb _ _ r)
  | loc m =>
    obtain ⟨a, ma, rfl⟩ := r
    dsimp only at ok
    split at ok
    · rename_i hm
      exact ok _ _ _ x2 S2 ⟨a, by rw [List.getElem?_take, if_pos hm]; exact ma, rfl⟩
    · rename_i hm
      split at ok
      · rename_i ds hd
        obtain ⟨xs, h1, h2⟩ := S1.cell m _ a hd ma
        have na : a ∉ M'.take M.length := fun hmem => by
          obtain ⟨j, hj, e⟩ := List.getElem_of_mem hmem
          rw [List.getElem_take] at e
          rw [List.length_take] at hj
          obtain ⟨hm2, e2⟩ := List.getElem?_eq_some_iff.mp ma
          have := (List.getElem_inj S1.nd).mp (e.trans e2.symm)
          omega
        exact ok _ _ _ x2 S2 (.lst (.inl (Fz_of h1 na)) (Drs.sub sb _ _ h2))
      · exact ok.elim
/-- a def of the text: its slots, its tree -/
theorem def_ok {x qual : Str} {st : Stmt} {f : Addr} {fd : FuncData} {N ps : List Str} {b : IB} (F : FunD K x qual (defArgs st) (defBody st) (defScope st) [] [] f fd) (S : FnScope N ps (defScope st)) (L : Lib P w K mg base fns exs G cl k) (h : chkB ⟨N, fns, exs⟩ (defScope st) b (defBody st) = true) :
    FnOk P w K mg base (L2N.CX P w) (k + 1) f fd ps (SpOf P w cl ⟨x, ps.length, runDef G N.length b⟩) := by
  obtain ⟨oc, od, dV, kV, doc, pm, an, cdv, ct, osl, rfl, lk, hcd, _, _⟩ := F.ex
  have len : ∀ vs H Q E, SpOf P w cl ⟨x, ps.length, runDef G N.length b⟩ vs H Q E → vs.length = ps.length := fun vs H Q E ⟨M, st, args, _, r, hl, _⟩ => by rw [Paired.length r]; exact hl
  have hpl : ps.length ≤ N.length := by
    have := congrArg List.length S.pre
    rw [List.length_take] at this
    omega
  refine fn_of lk hcd S len fun A outer s H vs Q E hr ⟨M, sto, args, SM, r, hl, ok⟩ => ?_
  have gd : Gd (cxOf (L2N.CX P w) P w K mg base N qual (defScope st) f cdv A outer s H E) G cl (fun cls d _ H => E cls d H) ⟨N, fns, exs⟩ (defScope st) := by
    refine ⟨rfl, S.nd, rfl, rfl, ?_, L2N.takes_of rfl rfl rfl rfl, fun i y hy => ?_, L.blt⟩
    · have := hr.un
      show (A.deeper _).units + 70 < cLine
      omega
    · obtain ⟨e, h1, h2, ⟨fa, fd, ps2, F2, mgf, kp, bd⟩⟩ := L.fns i y hy
      exact ⟨e, h1, h2, ⟨k, fa, fd, ps2, F2, hr, mgf, kp, bd⟩⟩
  have gs : GdS (cxOf (L2N.CX P w) P w K mg base N qual (defScope st) f cdv A outer s H E) G cl (fun cls d _ H => E cls d H) ⟨N, fns, exs⟩ (defScope st) :=
    ⟨gd, S.kind, fun _ _ => .inl rfl, passes_of rfl, fun i y hy => by
      obtain ⟨C, h1, ⟨bmB, B, nI, iI, F3, q, g1, g2, g3, g4⟩⟩ := L.exs i y hy
      exact ⟨C, h1, ⟨bmB, B, nI, iI, F3, q, g1, g2, raises_own g3 g4⟩⟩, rfl, rfl, fun hm => by
        obtain ⟨h1, h2⟩ := L.hot hm
        exact ⟨h1, (L2H.roomH_of hr).mono h2⟩⟩
  refine ⟨_, sndB b (defBody st) _ _ _ N.length (Nat.le_refl _) gs h, M, startE N.length args, sto, SM, envR_start r, ?_, ?_⟩
  · unfold L2.start
    rw [List.length_append, List.length_map, List.length_replicate, Paired.length r, hl]
    show ps.length + (N.length - ps.length) = N.length
    omega
  · replace ok : OkE P w M H (runDef G N.length b args sto) Q (fun k H' => ∃ C, cl[k]? = some C ∧ E (.ref C) none H') := ok
    unfold runDef at ok
    split at ok
    · rename_i env1 st1 he
      rw [he]
      exact fun M' H' σ' xx S1 V l => fin_ok SM xx S1 (x := .non) (v := .dat .none) .non ok
    · rename_i v st1 he
      rw [he]
      exact fun M' H' x xx S1 r1 => fin_ok SM xx S1 r1 ok
    · rename_i e st1 he
      rw [he]
      exact fun M' H' σ' xx S1 l => by
        have hl2 : M.length = sto.length := SM.len
        have S2 := S1.take M.length
        rw [hl2] at S2
        have x2 := Ext.take SM xx
        rw [hl2] at x2
        exact ok _ _ x2 S2
    · exact ok.elim
end
end PD

set_option Elab.async false
set_option linter.all false
set_option maxRecDepth 100000
set_option maxHeartbeats 2000000
/-! All defs of a text at once, and the head. -/
namespace PD
open PySem PySem.Spec PyProof.Rows L2
/-- a def of the text: its name, its row, its slots, its parameters, its tree -/
structure Dfn where
  name : Str
  st : Stmt
  N : List Str
  ps : List Str
  b : IB
def kindF : ScopeKind → Bool
  | .function => true
  | _ => false
def scOk (e : Dfn) : Bool := kindF (defScope e.st).kind && ((defScope e.st).isCoroutine == false) && ((defScope e.st).isGenerator == false) && decide e.N.Nodup && decide (e.N.take e.ps.length = e.ps) &&
  (e.ps.all fun x => isOwn (defScope e.st) x) && ((defScope e.st).names.all fun y => match y.2 with
    | .free => false
    | _ => true)
/-- its parameters are plain: all are given, by place -/
def Bnd (e : Dfn) : Prop := ∀ (kV doc pm : Value) (an : Option Addr) (cdv ct : Value) (us : List Value), us.length = e.ps.length → bindArgs (PySem.W.fnOf e.name e.name (defArgs e.st) (defBody e.st) (defScope e.st) .none kV doc pm an cdv ct) ⟨us, []⟩ = pure (e.ps.zip us)
inductive AllB : List Dfn → Prop where
  | nil : AllB []
  | cons {e : Dfn} {r : List Dfn} : Bnd e → AllB r → AllB (e :: r)
theorem AllB.mem : ∀ {es : List Dfn} {e : Dfn}, AllB es → e ∈ es → Bnd e
  | _, _, .nil, h => by cases h
  | _, _, .cons b r, h => by
    rcases List.mem_cons.mp h with rfl | h
    · exact b
    · exact AllB.mem r h
def isHole : IB → Bool
  | .cons .hole .nil => true
  | _ => false
def entOk (fns exs : List Str) (e : Dfn) : Bool := scOk e && ((decide (e.name = "_law_which") && isHole e.b) || (!decide (e.name = "_law_which") && chkB ⟨e.N, fns, exs⟩ (defScope e.st) e.b (defBody e.st)))
def entsOk (exs : List Str) : List Str → List Dfn → Bool
  | _, [] => true
  | fns, e :: r => entOk fns exs e && entsOk exs (fns ++ [e.name]) r
def mkFn (G : List Fn) (e : Dfn) : Fn := ⟨e.name, e.ps.length, runDef G e.N.length e.b⟩
def buildG : List Fn → List Dfn → List Fn
  | G, [] => G
  | G, e :: r => buildG (G ++ [mkFn G e]) r
theorem sc_of {e : Dfn} (h : scOk e = true) : FnScope e.N e.ps (defScope e.st) := by
  unfold scOk at h
  simp only [Bool.and_eq_true, List.all_eq_true] at h
  obtain ⟨⟨⟨⟨⟨⟨h1, h2⟩, h3⟩, h4⟩, h5⟩, h6⟩, h7⟩ := h
  refine ⟨?_, eq_of_beq h2, eq_of_beq h3, of_decide_eq_true h4, of_decide_eq_true h5, fun x hx => ?_, fun y hy e => ?_⟩
  · unfold kindF at h1
    split at h1
    · assumption
    · cases h1
  · exact loc_of (h6 x hx)
  · have := h7 y hy
    rw [e] at this
    cases this
section
variable {P : Program} {w : World} {K : PySem.W.Frag} {mg : Str → Option Value} {base : Heap} {exs : List Str} {cl : List Addr}
/-- a def's object is there -/
def There (K : PySem.W.Frag) (mg : Str → Option Value) (e : Dfn) : Prop := Bnd e ∧ mg e.name = some (.ref (He.ga K e.name)) ∧ ∃ fd, FunD K e.name e.name (defArgs e.st) (defBody e.st) (defScope e.st) [] [] (He.ga K e.name) fd
theorem fn_in {fns : List Str} {G : List Fn} {k : Nat} {e : Dfn} (L : Lib P w K mg base fns exs G cl k) (h : entOk fns exs e = true) (t : There K mg e) : FnIn P w K mg base cl (k + 1) (mkFn G e) := by
  unfold entOk at h
  simp only [Bool.and_eq_true, Bool.or_eq_true] at h
  obtain ⟨b, mgf, fd, F⟩ := t
  rcases h.2 with ⟨_, h2⟩ | ⟨_, h2⟩
  · have none_ : ∀ vs H Q E, ¬ SpOf P w cl (mkFn G e) vs H Q E := fun vs H Q E ⟨M, st, args, _, _, _, ok⟩ => by
      have e1 : (mkFn G e).den args st = .err := by
        show runDef G e.N.length e.b args st = .err
        unfold isHole at h2
        split at h2
        · rename_i he
          rw [he]
          rfl
        · cases h2
      rw [e1] at ok
      exact ok
    exact ⟨_, fd, e.ps, ⟨fun vs H Q E q => (none_ _ _ _ _ q).elim, fun A outer s H args us vs Q E _ _ _ _ q => (none_ _ _ _ _ q).elim⟩, mgf, F.kp, F.bindsN b⟩
  · exact ⟨_, fd, e.ps, def_ok F (sc_of h.1) L h2, mgf, F.kp, F.bindsN b⟩
end
theorem build_pre : ∀ (es : List Dfn) (G : List Fn) (j : Nat), j < G.length → (buildG G es)[j]? = G[j]?
  | [], G, j, _ => rfl
  | e :: r, G, j, h => by
    rw [buildG, build_pre r (G ++ [mkFn G e]) j (by rw [List.length_append]; omega), List.getElem?_append_left h]
theorem lib_at {P : Program} {w : World} {K : PySem.W.Frag} {mg : Str → Option Value} {base : Heap} {exs : List Str} {cl : List Addr} : ∀ (es : List Dfn) (fns : List Str) (G : List Fn) (k : Nat), Lib P w K mg base fns exs G cl k → fns.length = G.length → entsOk exs fns es = true → (∀ e ∈ es, There K mg e) → (∀ e ∈ es, e.name = "_law_which" → HotW P w K mg base cl) →
    ∀ (i : Nat) (e : Dfn), es[i]? = some e → ∃ G1 fns1, (buildG G es)[G.length + i]? = some (mkFn G1 e) ∧ Lib P w K mg base fns1 exs G1 cl (k + i) ∧ entOk fns1 exs e = true
  | [], _, _, _, _, _, _, _, _, i, e, he => by simp at he
  | d :: r, fns, G, k, L, hl, h, t, hw, i, e, he => by
    unfold entsOk at h
    rw [Bool.and_eq_true] at h
    cases i with
    | zero =>
      simp only [List.getElem?_cons_zero, Option.some.injEq] at he
      subst he
      refine ⟨G, fns, ?_, L, h.1⟩
      rw [buildG, Nat.add_zero, build_pre r _ _ (by rw [List.length_append, List.length_singleton]; omega), List.getElem?_append_right (Nat.le_refl _), Nat.sub_self]
      rfl
    | succ i =>
      have L2 := L.more (f := mkFn G d) hl (fn_in L h.1 (t d List.mem_cons_self)) (hw d List.mem_cons_self)
      obtain ⟨G1, fns1, h1, h2, h3⟩ := lib_at r (fns ++ [d.name]) (G ++ [mkFn G d]) (k + 1) L2 (by rw [List.length_append, List.length_append, hl]; rfl) h.2 (fun x hx => t x (List.mem_cons_of_mem _ hx)) (fun x hx => hw x (List.mem_cons_of_mem _ hx)) i e (by simpa using he)
      refine ⟨G1, fns1, ?_, ?_, h3⟩
      · rw [List.length_append, List.length_singleton] at h1
        have e1 : G.length + 1 + i = G.length + (i + 1) := by omega
        rw [e1] at h1
        exact h1
      · have e1 : k + 1 + i = k + (i + 1) := by omega
        rw [e1] at h2
        exact h2
/-! ### what the top leaves -/
def noL (K : PySem.W.Frag) : Bool := K.all fun p => match p.2.cls with
  | .type c => !decide (c = "list")
  | _ => true
theorem noL_at : ∀ {K : PySem.W.Frag} {a : Addr} {o : Obj}, noL K = true → K.lookup a = some o → o.cls ≠ .type "list"
  | [], a, o, _, h => by cases h
  | (b, ob) :: r, a, o, hn, h => by
    unfold noL at hn
    rw [List.all_cons, Bool.and_eq_true] at hn
    have h2 : (match a == b with
      | true => some ob
      | false => r.lookup a) = some o := h
    cases q : a == b with
    | true =>
      rw [q] at h2
      cases h2
      intro e
      have := hn.1
      rw [e] at this
      cases this
    | false =>
      rw [q] at h2
      exact noL_at (K := r) hn.2 h2
/-- what isinstance asks of a class of errors -/
def excB (K : PySem.W.Frag) (D : Addr) : Bool := decide (PySem.W.findIn K (.ref D) "__getattribute__" = some (some (.builtin "BaseException.__getattribute__"))) && (decide (PySem.W.findIn K (.ref D) "__getattr__" = some none) && (decide (PySem.W.subIn K (.ref D) (.type "BaseException") = some true) && (PySem.W.hasDictIn K D && (decide (PySem.W.findIn K (.ref D) "__class__" = some (some (.builtin "object.__class__"))) &&
  (decide (PySem.W.specialIn K (.builtin "object.__class__") "__get__" = some (some (.builtin "getset_descriptor.__get__"))) && (decide (PySem.W.takesIn K (.builtin "object.__class__") = some true) && decide (PySem.W.mroIn K D (.type "object") = some true)))))))
theorem excB_ok {K : PySem.W.Frag} {D : Addr} (h : excB K D = true) : ExcC K D := by
  unfold excB at h
  simp only [Bool.and_eq_true, decide_eq_true_eq] at h
  obtain ⟨h1, h2, h3, h4, h5, h6, h7, h8⟩ := h
  exact ⟨h1, h2, h3, h4, h5, h6, h7, h8⟩
def wOk (exs : List Str) (K : PySem.W.Frag) : Bool := !decide (exs = whNames) || ((exs.all fun x => excB K (He.ga K x) && decide (PySem.W.kitOne K (.ref (He.ga K x)) (.type "ValueError") = some true)) && (exs.all fun x => exs.all fun y => decide (PySem.W.kitOne K (.ref (He.ga K x)) (.ref (He.ga K y)) = some (decide (x = y)))))
def xOk (exs : List Str) (K : PySem.W.Frag) : Bool := noL K && wOk exs K
def obsM (n : Nat) (exs : List Str) (fa : List He.Fa) (fn : List He.DefD) (g : Addr → Option Obj) : He.AlD × Bool := (He.obsDG n fa fn g, xOk exs (He.frG g (He.asD g n)))
def hookM (n : Nat) (exs : List Str) (fa : List He.Fa) (fn : List He.DefD) : PySem.W.Hook where
  α := He.AlD × Bool
  obs := fun s => obsM n exs fa fn s.heap.get?
  val := fun _ => (He.valD fn, true)
  says := fun _ h => ∃ K : PySem.W.Frag, K.In h ∧ He.SaysD fa fn K ∧ xOk exs K = true
  of := fun _ _ e => ⟨_, He.frG_in, congrArg Prod.fst e, congrArg Prod.snd e⟩
  keeps := fun _ _ _ ⟨K, hK, c⟩ k => ⟨K, PySem.W.Frag.In.keeps hK k, c⟩
theorem obsM_eq {n : Nat} {exs : List Str} {fa : List He.Fa} {fn : List He.DefD} {g : Addr → Option Obj} {s : Shared} (h : ∀ a, g a = s.heap.get? a) : obsM n exs fa fn g = (hookM n exs fa fn).obs s := by
  have e : g = s.heap.get? := funext h
  rw [e] <;> rfl
def Dfn.dd (e : Dfn) : He.DefD := ⟨(e.name, none), e.name, e.name, defArgs e.st, defBody e.st, defScope e.st, [], []⟩
def facts (es : List Dfn) (exs : List Str) : List He.Fa := es.map (fun e => .glo e.name) ++ (bltNames.map .free ++ (exs.map .glo ++ (exs.map .exc ++ (.glo "LineError" :: exs.map fun x => .exm x "LineError" true))))
section
variable {K : PySem.W.Frag} {h : Heap} {mg : Str → Option Value} {es : List Dfn} {exs : List Str}
theorem fact_mem {fa : List He.Fa} {fn : List He.DefD} (c : He.SaysD fa fn K) {f : He.Fa} (hf : f ∈ fa) : f.ok K = true := by
  obtain ⟨i, e⟩ := List.mem_iff_getElem?.mp hf
  exact c.fact i e
theorem there_of (B : AllB es) (X : K.In h) (G : h.Ns mainGlobals mg) (c : He.SaysD (facts es exs) (es.map Dfn.dd) K) : ∀ e ∈ es, There K mg e := fun e he => by
  refine ⟨B.mem he, He.glo_ok X G (fact_mem c (List.mem_append_left _ (List.mem_map.mpr ⟨e, he, rfl⟩))), ?_⟩
  obtain ⟨i, hi⟩ := List.mem_iff_getElem?.mp he
  exact c.def_ i (d := e.dd) (by rw [List.getElem?_map, hi]; rfl)
theorem lib_start {P : Program} {w : World} {base : Heap} (X : K.In h) (G : h.Ns mainGlobals mg) (c : He.SaysD (facts es exs) (es.map Dfn.dd) K) : Lib P w K mg base [] exs [] (exs.map (He.ga K)) 0 := by
  refine ⟨fun hm => by simp at hm, fun i x hx => by simp at hx, fun n hn => ?_, fun i x hx => ?_⟩
  · exact He.free_ok X G (fact_mem c (List.mem_append_right _ (List.mem_append_left _ (List.mem_map.mpr ⟨n, hn, rfl⟩))))
  · have hm : x ∈ exs := List.mem_of_getElem? hx
    have g1 := He.glo_ok X G (fact_mem c (List.mem_append_right _ (List.mem_append_right _ (List.mem_append_left _ (List.mem_map.mpr ⟨x, hm, rfl⟩)))))
    obtain ⟨q1, q2, q3, q4⟩ := He.exc_ok (fact_mem c (List.mem_append_right _ (List.mem_append_right _ (List.mem_append_right _ (List.mem_append_left _ (List.mem_map.mpr ⟨x, hm, rfl⟩))))))
    exact ⟨He.ga K x, by rw [List.getElem?_map, hx]; rfl, _, _, _, _, PySem.F.excBase_ValueError, q1, g1, q2, q3, q4⟩
end
/-- what a try leans on, from what the top leaves -/
theorem hot_from {P : Program} {w : World} {base h : Heap} {K : PySem.W.Frag} {mg : Str → Option Value} {es : List Dfn} {exs : List Str} (X : K.In h) (G : h.Ns mainGlobals mg) (c : He.SaysD (facts es exs) (es.map Dfn.dd) K) (xk : xOk exs K = true) (he : exs = whNames)
    (fn : WhK K mg (exs.map (He.ga K)) → ∃ (f : Addr) (fd : FuncData), HotFn P w K mg base noCX 1 f fd ["_law_e"] (spWhich (exs.map (He.ga K))) ∧ mg "_law_which" = some (.ref f) ∧ PySem.W.keepIn K (.ref f) = true ∧ Binds K fd ["_law_e"] []) : HotW P w K mg base (exs.map (He.ga K)) := by
  subst he
  have mem : ∀ {i : Nat} {C : Addr}, (whNames.map (He.ga K))[i]? = some C → ∃ x, whNames[i]? = some x ∧ C = He.ga K x := fun {i C} q => by
    rw [List.getElem?_map] at q
    cases e : whNames[i]? with
    | none => rw [e] at q; cases q
    | some x => rw [e] at q; cases q; exact ⟨x, rfl, rfl⟩
  unfold xOk wOk at xk
  rw [decide_eq_true rfl, Bool.not_true, Bool.false_or] at xk
  simp only [Bool.and_eq_true, List.all_eq_true, decide_eq_true_eq] at xk
  obtain ⟨_, x1, x2⟩ := xk
  have nd : whNames.Nodup := by decide +kernel
  have wk : WhK K mg (whNames.map (He.ga K)) := by
    refine ⟨rfl, fun i C q => ?_, fun i j C D q r => ?_, fun i C q => ?_, fun i C q => ?_, ?_, ?_⟩
    · obtain ⟨x, hx, rfl⟩ := mem q
      exact excB_ok (x1 x (List.mem_of_getElem? hx)).1
    · obtain ⟨x, hx, rfl⟩ := mem q
      obtain ⟨y, hy, rfl⟩ := mem r
      rw [x2 x (List.mem_of_getElem? hx) y (List.mem_of_getElem? hy)]
      congr 1
      refine decide_eq_decide.mpr ⟨fun e => ?_, fun e => ?_⟩
      · subst e
        obtain ⟨h1, e1⟩ := List.getElem?_eq_some_iff.mp hx
        obtain ⟨h2, e2⟩ := List.getElem?_eq_some_iff.mp hy
        exact (List.getElem_inj nd).mp (e1.trans e2.symm)
      · subst e
        exact Option.some.inj (hx.symm.trans hy)
    · obtain ⟨x, hx, rfl⟩ := mem q
      exact (x1 x (List.mem_of_getElem? hx)).2
    · obtain ⟨x, hx, rfl⟩ := mem q
      have e : whNames.getD i "" = x := by rw [List.getD_eq_getElem?_getD, hx]; rfl
      rw [e]
      exact He.glo_ok X G (fact_mem c (List.mem_append_right _ (List.mem_append_right _ (List.mem_append_left _ (List.mem_map.mpr ⟨x, List.mem_of_getElem? hx, rfl⟩)))))
    · exact He.free_ok X G (fact_mem c (List.mem_append_right _ (List.mem_append_left _ (List.mem_map.mpr ⟨"isinstance", by decide +kernel, rfl⟩))))
    · exact He.free_ok X G (fact_mem c (List.mem_append_right _ (List.mem_append_left _ (List.mem_map.mpr ⟨"ValueError", by decide +kernel, rfl⟩))))
  refine ⟨rfl, fn wk, He.ga K "LineError", He.glo_ok X G (fact_mem c (List.mem_append_right _ (List.mem_append_right _ (List.mem_append_right _ (List.mem_append_right _ List.mem_cons_self))))), fun i D q => ?_⟩
  obtain ⟨x, hx, rfl⟩ := mem q
  have := fact_mem c (f := .exm x "LineError" true) (List.mem_append_right _ (List.mem_append_right _ (List.mem_append_right _ (List.mem_append_right _ (List.mem_cons_of_mem _ (List.mem_map.mpr ⟨x, List.mem_of_getElem? hx, rfl⟩))))))
  exact of_decide_eq_true this
/-- the law's def among its text's -/
def lawFn (es : List Dfn) : Fn := (buildG [] es).getD (es.length - 1) ⟨"", 0, fun _ _ => .err⟩
theorem build_len : ∀ (es : List Dfn) (G : List Fn), (buildG G es).length = G.length + es.length
  | [], G => rfl
  | e :: r, G => by
    rw [buildG, build_len r, List.length_append, List.length_cons, List.length_cons, List.length_nil]
    omega
theorem walk {l : PySem.W.OpenLaw} {q : Program} {loose : List Str} {XP : (Str → Option Value) → Heap → Prop} {d : DefRec} {es : List Dfn} {exs : List Str} {n : Nat} {x : Str} (hm : l.most = some 63) (hdf : d.params.defaults = []) (hd : d.name = "law") (ok : entsOk exs [] es = true) (B : AllB es)
    (hlast : (es.map (·.name))[es.length - 1]? = some "law") (hps : (es.map (·.ps))[es.length - 1]? = some [x]) (hr : Room es.length callerA)
    (hot : (∀ e ∈ es, e.name ≠ "_law_which") ∨ ∀ (w : World) (base h : Heap) (K : PySem.W.Frag) (mg : Str → Option Value), K.In h → h.Ns mainGlobals mg → He.SaysD (facts es exs) (es.map Dfn.dd) K → xOk exs K = true → HotW l.prog w K mg base (exs.map (He.ga K)))
    (holds : ∀ ns : List Int, ns.length ≤ 63 → ∃ st, (lawFn es).den [.dat (.list (ns.map PyData.int))] [] = .ok (.dat (.bool true)) st) :
    PySem.W.WalkO q loose XP (hookM n exs (facts es exs) (es.map Dfn.dd)).says l.row.toRowW d [] (fun f vs => PySem.call f vs) := by
  refine Att.attach_call hm hdf fun w s₀ s₁ mg mb fa o pm cd doc a vs ns G Y ho hd2 hcd hmg hobj hints hlen hg => ?_
  obtain ⟨K, KX, c, hn⟩ := Y
  rw [hd] at hmg
  have GT := G.T.g
  -- the last entry
  have hel : es.length - 1 < es.length := by
    have := (List.getElem?_eq_some_iff.mp hlast).1
    rw [List.length_map] at this
    exact this
  have hel2 : es[es.length - 1].ps = [x] := by
    rw [List.getElem?_map, List.getElem?_eq_getElem hel] at hps
    exact Option.some.inj hps
  have hel3 : es[es.length - 1].name = "law" := by
    rw [List.getElem?_map, List.getElem?_eq_getElem hel] at hlast
    exact Option.some.inj hlast
  obtain ⟨bl, mgf, fd, F⟩ := there_of B KX GT c es[es.length - 1] (List.getElem_mem hel)
  rw [hel3] at mgf
  have efa := hmg.symm.trans mgf
  cases efa
  have at_ := fun (base : Heap) => lib_at (P := l.prog) (w := w) (base := base) es [] [] 0 (lib_start KX GT c) rfl ok (there_of B KX GT c) (fun e he hn2 => hot.elim (fun q => absurd hn2 (q e he)) fun q => q w base _ K mg KX GT c hn) (es.length - 1) es[es.length - 1] (List.getElem?_eq_getElem hel)
  obtain ⟨G0, fns0, f1, _, _⟩ := at_ s₁.heap
  have ef : lawFn es = mkFn G0 es[es.length - 1] := by
    unfold lawFn
    have e0 : ([] : List Fn).length + (es.length - 1) = es.length - 1 := by simp
    rw [e0] at f1
    rw [List.getD_eq_getElem?_getD, f1]
    rfl
  refine law_call (k := es.length) (sp := SpOf l.prog w (exs.map (He.ga K)) (lawFn es)) (CX := L2N.CX l.prog w) (x := x) (fd := fd) KX GT G.T.b G.T.builtins G.T.nolimit hg hobj hints (Nat.le_trans hlen (by decide)) hr (fun base KB GB => ?_) (fun s u => ?_) (fun H hO hS => ?_) fun H e s' h => ?_
  · obtain ⟨G1, fns1, f2, L1, o1⟩ := at_ base
    have e0 : ([] : List Fn).length + (es.length - 1) = es.length - 1 := by simp
    rw [e0] at f1 f2
    rw [f1] at f2
    have e2 : mkFn G1 es[es.length - 1] = lawFn es := by rw [ef]; exact (Option.some.inj f2).symm
    rw [← e2]
    unfold entOk at o1
    simp only [Bool.and_eq_true, Bool.or_eq_true] at o1
    have o2 : chkB ⟨es[es.length - 1].N, fns1, exs⟩ (defScope es[es.length - 1].st) es[es.length - 1].b (defBody es[es.length - 1].st) = true := by
      rcases o1.2 with ⟨z, _⟩ | ⟨_, z⟩
      · rw [hel3] at z
        exact absurd z (by decide +kernel)
      · exact z
    have q := def_ok F (sc_of o1.1) L1 o2
    have e3 : 0 + (es.length - 1) + 1 = es.length := by omega
    rw [e3] at q
    have e4 : es[es.length - 1].ps = [x] := hel2
    have q2 : FnOk l.prog w K mg base (L2N.CX l.prog w) es.length (He.ga K es[es.length - 1].name) fd es[es.length - 1].ps (SpOf l.prog w (exs.map (He.ga K)) (mkFn G1 es[es.length - 1])) := q
    rw [e4, hel3] at q2
    exact q2
  · have b := F.bindsA (ps := es[es.length - 1].ps) bl s [u] (by rw [hel2]; rfl)
    rw [hel2] at b
    exact b
  · obtain ⟨st, hst⟩ := holds ns hlen
    refine ⟨[], [], [.dat (.list (ns.map PyData.int))], ⟨rfl, List.nodup_nil, fun n c a h => by simp at h⟩, .cons ?_ .nil, ?_, ?_⟩
    · rcases hS with h | ⟨o, its, m, hk, hc, _⟩
      · refine .lst ?_ (Drs.of_ints ns)
        have e : Fz [] H = H := by
          funext b
          unfold Fz
          rw [if_neg (by simp)]
        rw [e]
        exact h
      · exact absurd hc (noL_at (by unfold xOk at hn; rw [Bool.and_eq_true] at hn; exact hn.1) hk)
    · rw [ef]
      show 1 = es[es.length - 1].ps.length
      rw [hel2]
      rfl
    · rw [hst]
      exact fun M' H' x _ _ r => by
        cases r
        rfl
  · obtain ⟨_, _, _, _, _, _, _, _, _, _, _, _, z⟩ := h
    exact z
end PD

set_option Elab.async false
set_option linter.all false
set_option maxRecDepth 100000
/-! The trees of the defs. -/
namespace PD
open PySem
/- is_integer: value low high -/
def b_is_integer : IB :=
  (.cons (.ret (.and (.isT (.var 0) .int) (.and (.not (.isT (.var 0) .bool)) (.one (.chain .LtE .LtE (.var 1) (.var 0) (.var 2))))))
  .nil)
/- check_size: size -/
def b_check_size (i_is_integer x_InvalidSize : Nat) : IB :=
  (.cons (.ife (.not (.call i_is_integer (.cons (.var 0) (.cons (.lit (.int 1)) (.cons (.lit (.int 3)) .nil))))) (.cons (.rais x_InvalidSize)
  .nil) .nil)
  .nil)
/- fits: size value one -/
def b_fits (i_is_integer : Nat) : IB :=
  (.cons (.ret (.and (.isT (.var 1) .tuple) (.and (.cmp .Eq (.blt .len (.cons (.var 1) .nil)) (.var 0)) (.one (.blt .all (.cons (.comp [2] (.one 2) (.seq (.var 1)) .none (.call i_is_integer (.cons (.var 2) (.cons (.lit (.int 0)) (.cons (.lit (.int 2)) .nil))))) .nil))))))
  .nil)
/- is_place: size value -/
def b_is_place (i_check_size i_fits : Nat) : IB :=
  (.cons (.exp (.call i_check_size (.cons (.var 0) .nil)))
  (.cons (.ret (.call i_fits (.cons (.var 0) (.cons (.var 1) .nil))))
  .nil))
/- all_places: size some again longer place value -/
def b_all_places : IB :=
  (.cons (.set 1 (.lst (.cons (.tup .nil) .nil)))
  (.cons (.for_ (.one 2) (.range1 (.var 0)) (.cons (.set 3 (.newL .nil))
  (.cons (.for_ (.one 4) (.seq (.var 1)) (.cons (.exp (.mth .extend (.var 3) (.cons (.comp [5] (.one 5) (.range1 (.lit (.int 3))) .none (.bin .Add (.var 4) (.tup (.cons (.var 5) .nil)))) .nil)))
  .nil))
  (.cons (.set 1 (.var 3))
  .nil))))
  (.cons (.ret (.var 1))
  .nil)))
/- third_of: one other first second -/
def b_third_of : IB :=
  (.cons (.ret (.blt .tuple (.cons (.comp [2, 3] (.two 2 3) (.zip (.var 0) (.var 1)) .none (.bin .Mod (.bin .Sub (.bin .Sub (.lit (.int 0)) (.var 2)) (.var 3)) (.lit (.int 3)))) .nil)))
  .nil)
/- line_list: some found at one other last -/
def b_line_list (i_third_of : Nat) : IB :=
  (.cons (.set 1 (.newL .nil))
  (.cons (.for_ (.two 2 3) (.enum (.var 0)) (.cons (.for_ (.one 4) (.seq (.slc (.var 0) (.some (.bin .Add (.var 2) (.lit (.int 1)))) .none)) (.cons (.set 5 (.call i_third_of (.cons (.var 3) (.cons (.var 4) .nil))))
  (.cons (.ife (.and (.cmp .Lt (.var 4) (.var 5)) (.one (.cmp .In (.var 5) (.var 0)))) (.cons (.exp (.mth .append (.var 1) (.cons (.tup (.cons (.var 3) (.cons (.var 4) (.cons (.var 5) .nil)))) .nil)))
  .nil) .nil)
  .nil)))
  .nil))
  (.cons (.ret (.var 1))
  .nil)))
/- lines: size -/
def b_lines (i_all_places i_check_size i_line_list : Nat) : IB :=
  (.cons (.exp (.call i_check_size (.cons (.var 0) .nil)))
  (.cons (.ret (.call i_line_list (.cons (.call i_all_places (.cons (.var 0) .nil)) .nil)))
  .nil))
/- third: size one other -/
def b_third (i_check_size i_fits i_third_of x_InvalidPlace : Nat) : IB :=
  (.cons (.exp (.call i_check_size (.cons (.var 0) .nil)))
  (.cons (.ife (.or (.not (.call i_fits (.cons (.var 0) (.cons (.var 1) .nil)))) (.or (.not (.call i_fits (.cons (.var 0) (.cons (.var 2) .nil)))) (.one (.cmp .Eq (.var 1) (.var 2))))) (.cons (.rais x_InvalidPlace)
  .nil) .nil)
  (.cons (.ret (.call i_third_of (.cons (.var 1) (.cons (.var 2) .nil))))
  .nil)))
/- is_line: size value place -/
def b_is_line (i_check_size i_fits i_third_of : Nat) : IB :=
  (.cons (.exp (.call i_check_size (.cons (.var 0) .nil)))
  (.cons (.ife (.or (.not (.isT (.var 1) .tuple)) (.or (.cmp .NotEq (.blt .len (.cons (.var 1) .nil)) (.lit (.int 3))) (.one (.not (.blt .all (.cons (.comp [2] (.one 2) (.seq (.var 1)) .none (.call i_fits (.cons (.var 0) (.cons (.var 2) .nil)))) .nil)))))) (.cons (.ret (.lit (.bool false)))
  .nil) .nil)
  (.cons (.ret (.and (.chain .Lt .Lt (.ix (.var 1) (.lit (.int 0))) (.ix (.var 1) (.lit (.int 1))) (.ix (.var 1) (.lit (.int 2)))) (.one (.cmp .Eq (.call i_third_of (.cons (.ix (.var 1) (.lit (.int 0))) (.cons (.ix (.var 1) (.lit (.int 1))) .nil))) (.ix (.var 1) (.lit (.int 2)))))))
  .nil)))
/- _law_cell_at: _law_script _law_k _law_spare _law_again -/
def b__law_cell_at : IB :=
  (.cons (.ife (.cmp .Lt (.var 1) (.blt .len (.cons (.var 0) .nil))) (.cons (.ret (.ix (.var 0) (.var 1)))
  .nil) .nil)
  (.cons (.ife (.cmp .Eq (.var 0) (.lst .nil)) (.cons (.ret (.lit (.int 0)))
  .nil) .nil)
  (.cons (.set 2 (.ix (.var 0) (.bin .Mod (.var 1) (.blt .len (.cons (.var 0) .nil)))))
  (.cons (.for_ (.one 3) (.range1 (.blt .min2 (.cons (.bin .FloorDiv (.var 1) (.blt .len (.cons (.var 0) .nil))) (.cons (.lit (.int 60)) .nil)))) (.cons (.set 2 (.bin .FloorDiv (.var 2) (.lit (.int 1000003))))
  .nil))
  (.cons (.ret (.bin .Add (.bin .Add (.bin .Mult (.ix (.var 0) (.bin .Mod (.var 1) (.blt .len (.cons (.var 0) .nil)))) (.lit (.int 31))) (.var 1)) (.bin .Mult (.var 2) (.lit (.int 101)))))
  .nil)))))
/- _law_mixed: _law_script _law_k _law_many _law_spun -/
def b__law_mixed (i__law_cell_at : Nat) : IB :=
  (.cons (.set 3 (.bin .Mod (.bin .Add (.bin .Add (.bin .Mult (.call i__law_cell_at (.cons (.var 0) (.cons (.var 1) .nil))) (.lit (.int 1103515245))) (.bin .Mult (.lit (.int 7919)) (.var 1))) (.lit (.int 12345))) (.lit (.int 2147483647))))
  (.cons (.ret (.bin .Mod (.bin .Mod (.bin .Mod (.bin .Pow (.var 3) (.lit (.int 5))) (.lit (.int 2147483647))) (.lit (.int 999983))) (.var 2)))
  .nil))
/- _law_draw: _law_script _law_town _law_many -/
def b__law_draw (i__law_mixed : Nat) : IB :=
  (.cons (.exp (.mth .append (.var 1) (.cons (.lit (.int 0)) .nil)))
  (.cons (.ret (.call i__law_mixed (.cons (.var 0) (.cons (.blt .len (.cons (.var 1) .nil)) (.cons (.var 2) .nil)))))
  .nil))
/- _law_pick: _law_script _law_town _law_some -/
def b__law_pick (i__law_draw : Nat) : IB :=
  (.cons (.ret (.ix (.var 2) (.call i__law_draw (.cons (.var 0) (.cons (.var 1) (.cons (.blt .len (.cons (.var 2) .nil)) .nil))))))
  .nil)
/- _law_same_truth: _law_got _law_due -/
def b__law_same_truth : IB :=
  (.cons (.ret (.and (.isT (.var 0) .bool) (.one (.cmp .Eq (.var 0) (.var 1)))))
  .nil)
/- _law_grid: _law_size _law_made _law_number _law_power -/
def b__law_grid : IB :=
  (.cons (.set 1 (.newL .nil))
  (.cons (.for_ (.one 2) (.range1 (.ix (.lst (.cons (.lit (.int 3)) (.cons (.lit (.int 9)) (.cons (.lit (.int 27)) .nil)))) (.bin .Sub (.var 0) (.lit (.int 1))))) (.cons (.exp (.mth .append (.var 1) (.cons (.blt .tuple (.cons (.comp [3] (.one 3) (.seq (.slc (.lst (.cons (.lit (.int 9)) (.cons (.lit (.int 3)) (.cons (.lit (.int 1)) .nil)))) (.some (.bin .Sub (.lit (.int 3)) (.var 0))) .none)) .none (.bin .Mod (.bin .FloorDiv (.var 2) (.var 3)) (.lit (.int 3)))) .nil)) .nil)))
  .nil))
  (.cons (.ret (.var 1))
  .nil)))
/- _law_rowed: _law_one _law_other _law_last _law_at -/
def b__law_rowed : IB :=
  (.cons (.ret (.cmp .Eq (.comp [3] (.one 3) (.range1 (.blt .len (.cons (.var 0) .nil))) (.some (.cmp .Eq (.blt .lenSet (.cons (.lst (.cons (.ix (.var 0) (.var 3)) (.cons (.ix (.var 1) (.var 3)) (.cons (.ix (.var 2) (.var 3)) .nil)))) .nil)) (.lit (.int 2)))) (.lit (.int 1))) (.lst .nil)))
  .nil)
/- _law_rows_in: _law_some _law_made _law_at _law_one _law_step _law_other _law_last -/
def b__law_rows_in (i__law_rowed : Nat) : IB :=
  (.cons (.set 1 (.newL .nil))
  (.cons (.for_ (.two 2 3) (.enum (.var 0)) (.cons (.for_ (.two 4 5) (.enum (.slc (.var 0) (.some (.bin .Add (.var 2) (.lit (.int 1)))) .none)) (.cons (.for_ (.one 6) (.seq (.slc (.var 0) (.some (.bin .Add (.bin .Add (.var 2) (.var 4)) (.lit (.int 2)))) .none)) (.cons (.ife (.call i__law_rowed (.cons (.var 3) (.cons (.var 5) (.cons (.var 6) .nil)))) (.cons (.exp (.mth .append (.var 1) (.cons (.tup (.cons (.var 3) (.cons (.var 5) (.cons (.var 6) .nil)))) .nil)))
  .nil) .nil)
  .nil))
  .nil))
  .nil))
  (.cons (.ret (.var 1))
  .nil)))
/- _law_ask: _law_size _law_one _law_other _law_e -/
def b__law_ask (i_third : Nat) : IB :=
  (.cons (.tryW (.cons (.ret (.call i_third (.cons (.var 0) (.cons (.var 1) (.cons (.var 2) .nil)))))
  .nil))
  .nil)
/- _law_ask_k02: _law_what _law_size _law_some _law_e -/
def b__law_ask_k02 (i_count_pure i_first_line i_is_free i_lines_in : Nat) : IB :=
  (.cons (.tryW (.cons (.ret (.callIx [i_lines_in, i_is_free, i_first_line, i_count_pure] (.var 0) (.cons (.var 1) (.cons (.var 2) .nil))))
  .nil))
  .nil)
/- _law_ask_k03: _law_what _law_size _law_some _law_e -/
def b__law_ask_k03 (i_completed i_is_complete i_open_places : Nat) : IB :=
  (.cons (.tryW (.cons (.ret (.callIx [i_open_places, i_is_complete, i_completed] (.var 0) (.cons (.var 1) (.cons (.var 2) .nil))))
  .nil))
  .nil)
/- _law_ask_k04: _law_size _law_count _law_e -/
def b__law_ask_k04 (i_free_sets : Nat) : IB :=
  (.cons (.tryW (.cons (.ret (.call i_free_sets (.cons (.var 0) (.cons (.var 1) .nil))))
  .nil))
  .nil)
/- _law_ask_k06: _law_some _law_e -/
def b__law_ask_k06 (i_kind : Nat) : IB :=
  (.cons (.tryW (.cons (.ret (.call i_kind (.cons (.var 0) .nil)))
  .nil))
  .nil)
/- _law_ask_k07: _law_count _law_e -/
def b__law_ask_k07 (i_kinds : Nat) : IB :=
  (.cons (.tryW (.cons (.ret (.call i_kinds (.cons (.var 0) .nil)))
  .nil))
  .nil)
/- lies: size value one other place -/
def b_lies (i_fits : Nat) : IB :=
  (.cons (.ife (.or (.not (.isT (.var 1) .tuple)) (.one (.not (.blt .all (.cons (.comp [4] (.one 4) (.seq (.var 1)) .none (.call i_fits (.cons (.var 0) (.cons (.var 4) .nil)))) .nil))))) (.cons (.ret (.lit (.bool false)))
  .nil) .nil)
  (.cons (.ret (.blt .all (.cons (.comp [2, 3] (.two 2 3) (.zip (.var 1) (.slc (.var 1) (.some (.lit (.int 1))) .none)) .none (.cmp .Lt (.var 2) (.var 3))) .nil)))
  .nil))
/- is_set: size value -/
def b_is_set (i_check_size i_lies : Nat) : IB :=
  (.cons (.exp (.call i_check_size (.cons (.var 0) .nil)))
  (.cons (.ret (.call i_lies (.cons (.var 0) (.cons (.var 1) .nil))))
  .nil))
/- check_set: size some -/
def b_check_set (i_check_size i_lies x_InvalidSet : Nat) : IB :=
  (.cons (.exp (.call i_check_size (.cons (.var 0) .nil)))
  (.cons (.ife (.not (.call i_lies (.cons (.var 0) (.cons (.var 1) .nil)))) (.cons (.rais x_InvalidSet)
  .nil) .nil)
  .nil))
/- lines_in: size some -/
def b_lines_in (i_check_set i_line_list : Nat) : IB :=
  (.cons (.exp (.call i_check_set (.cons (.var 0) (.cons (.var 1) .nil))))
  (.cons (.ret (.call i_line_list (.cons (.var 1) .nil)))
  .nil))
/- is_free: size some -/
def b_is_free (i_check_set i_line_list : Nat) : IB :=
  (.cons (.exp (.call i_check_set (.cons (.var 0) (.cons (.var 1) .nil))))
  (.cons (.ret (.cmp .Eq (.call i_line_list (.cons (.var 1) .nil)) (.lst .nil)))
  .nil))
/- first_line: size some found -/
def b_first_line (i_check_set i_line_list x_NoLine : Nat) : IB :=
  (.cons (.exp (.call i_check_set (.cons (.var 0) (.cons (.var 1) .nil))))
  (.cons (.set 2 (.call i_line_list (.cons (.var 1) .nil)))
  (.cons (.ife (.cmp .Eq (.var 2) (.lst .nil)) (.cons (.rais x_NoLine)
  .nil) .nil)
  (.cons (.ret (.ix (.var 2) (.lit (.int 0))))
  .nil))))
/- count_pure: size some count -/
def b_count_pure (i_all_places i_check_set : Nat) : IB :=
  (.cons (.exp (.call i_check_set (.cons (.var 0) (.cons (.var 1) .nil))))
  (.cons (.set 2 (.blt .len (.cons (.call i_all_places (.cons (.var 0) .nil)) .nil)))
  (.cons (.ret (.bin .Sub (.bin .FloorDiv (.bin .Mult (.var 2) (.bin .Sub (.var 2) (.lit (.int 1)))) (.lit (.int 6))) (.bin .FloorDiv (.bin .Mult (.blt .len (.cons (.var 1) .nil)) (.bin .Sub (.var 2) (.blt .len (.cons (.var 1) .nil)))) (.lit (.int 2)))))
  .nil)))
/- _law_same_number: _law_got _law_due -/
def b__law_same_number : IB :=
  (.cons (.ret (.and (.isT (.var 0) .int) (.and (.not (.isT (.var 0) .bool)) (.one (.cmp .Eq (.var 0) (.var 1))))))
  .nil)
/- _law_hits: _law_made _law_place _law_at _law_one _law_other -/
def b__law_hits (i__law_rowed : Nat) : IB :=
  (.cons (.for_ (.two 2 3) (.enum (.var 0)) (.cons (.ife (.cmp .NotEq (.comp [4] (.one 4) (.seq (.slc (.var 0) (.some (.bin .Add (.var 2) (.lit (.int 1)))) .none)) (.some (.call i__law_rowed (.cons (.var 3) (.cons (.var 4) (.cons (.var 1) .nil))))) (.lit (.int 1))) (.lst .nil)) (.cons (.ret (.lit (.bool true)))
  .nil) .nil)
  .nil))
  (.cons (.ret (.lit (.bool false)))
  .nil))
/- _law_some_set: _law_script _law_town _law_size _law_most _law_grown _law_again _law_some _law_made _law_place -/
def b__law_some_set (i__law_draw i__law_grid i__law_hits i__law_pick : Nat) : IB :=
  (.cons (.set2 6 7 (.call i__law_grid (.cons (.var 2) .nil)) (.newL .nil))
  (.cons (.set 4 (.cmp .Eq (.call i__law_draw (.cons (.var 0) (.cons (.var 1) (.cons (.lit (.int 2)) .nil)))) (.lit (.int 0))))
  (.cons (.for_ (.one 5) (.range1 (.call i__law_draw (.cons (.var 0) (.cons (.var 1) (.cons (.bin .Add (.var 3) (.lit (.int 1))) .nil))))) (.cons (.set 8 (.call i__law_pick (.cons (.var 0) (.cons (.var 1) (.cons (.var 6) .nil)))))
  (.cons (.ife (.and (.cmp .NotIn (.var 8) (.var 7)) (.one (.not (.and (.var 4) (.one (.call i__law_hits (.cons (.var 7) (.cons (.var 8) .nil)))))))) (.cons (.exp (.mth .append (.var 7) (.cons (.var 8) .nil)))
  .nil) .nil)
  .nil)))
  (.cons (.ret (.blt .tuple (.cons (.blt .sorted (.cons (.var 7) .nil)) .nil)))
  .nil))))
/- check_free: size some -/
def b_check_free (i_check_set i_line_list x_HasLine : Nat) : IB :=
  (.cons (.exp (.call i_check_set (.cons (.var 0) (.cons (.var 1) .nil))))
  (.cons (.ife (.cmp .NotEq (.call i_line_list (.cons (.var 1) .nil)) (.lst .nil)) (.cons (.rais x_HasLine)
  .nil) .nil)
  .nil))
/- open_list: size some closed at one other place -/
def b_open_list (i_all_places i_third_of : Nat) : IB :=
  (.cons (.set 2 .newD)
  (.cons (.for_ (.two 3 4) (.enum (.var 1)) (.cons (.setIx (.var 2) (.var 4) (.lit (.bool true)))
  (.cons (.for_ (.one 5) (.seq (.slc (.var 1) (.some (.bin .Add (.var 3) (.lit (.int 1)))) .none)) (.cons (.setIx (.var 2) (.call i_third_of (.cons (.var 4) (.cons (.var 5) .nil))) (.lit (.bool true)))
  .nil))
  .nil)))
  (.cons (.ret (.comp [6] (.one 6) (.seq (.call i_all_places (.cons (.var 0) .nil))) (.some (.cmp .NotIn (.var 6) (.var 2))) (.var 6)))
  .nil)))
/- open_places: size some -/
def b_open_places (i_check_free i_open_list : Nat) : IB :=
  (.cons (.exp (.call i_check_free (.cons (.var 0) (.cons (.var 1) .nil))))
  (.cons (.ret (.call i_open_list (.cons (.var 0) (.cons (.var 1) .nil))))
  .nil))
/- is_complete: size some -/
def b_is_complete (i_check_free i_open_list : Nat) : IB :=
  (.cons (.exp (.call i_check_free (.cons (.var 0) (.cons (.var 1) .nil))))
  (.cons (.ret (.cmp .Eq (.call i_open_list (.cons (.var 0) (.cons (.var 1) .nil))) (.lst .nil)))
  .nil))
/- completed: size some left -/
def b_completed (i_check_free i_open_list : Nat) : IB :=
  (.cons (.exp (.call i_check_free (.cons (.var 0) (.cons (.var 1) .nil))))
  (.cons (.set 2 (.call i_open_list (.cons (.var 0) (.cons (.var 1) .nil))))
  (.cons (.whl (.cmp .NotEq (.var 2) (.lst .nil)) (.cons (.set 1 (.blt .tuple (.cons (.blt .sorted (.cons (.bin .Add (.var 1) (.tup (.cons (.ix (.var 2) (.lit (.int 0))) .nil))) .nil)) .nil)))
  (.cons (.set 2 (.call i_open_list (.cons (.var 0) (.cons (.var 1) .nil))))
  .nil)))
  (.cons (.ret (.var 1))
  .nil))))
/- greatest_size: size -/
def b_greatest_size (i_check_size : Nat) : IB :=
  (.cons (.exp (.call i_check_size (.cons (.var 0) .nil)))
  (.cons (.ret (.ix (.lst (.cons (.lit (.int 2)) (.cons (.lit (.int 4)) (.cons (.lit (.int 9)) .nil)))) (.bin .Sub (.var 0) (.lit (.int 1)))))
  .nil))
/- free_sets: size count some again longer one place -/
def b_free_sets (i_is_integer i_open_list x_InvalidNumber x_InvalidSize : Nat) : IB :=
  (.cons (.ife (.not (.call i_is_integer (.cons (.var 0) (.cons (.lit (.int 1)) (.cons (.lit (.int 2)) .nil))))) (.cons (.rais x_InvalidSize)
  .nil) .nil)
  (.cons (.ife (.not (.call i_is_integer (.cons (.var 1) (.cons (.lit (.int 0)) (.cons (.lit (.int 9)) .nil))))) (.cons (.rais x_InvalidNumber)
  .nil) .nil)
  (.cons (.set 2 (.lst (.cons (.tup .nil) .nil)))
  (.cons (.for_ (.one 3) (.range1 (.var 1)) (.cons (.set 4 (.newL .nil))
  (.cons (.for_ (.one 5) (.seq (.var 2)) (.cons (.exp (.mth .extend (.var 4) (.cons (.comp [6] (.one 6) (.seq (.call i_open_list (.cons (.var 0) (.cons (.var 5) .nil)))) (.some (.or (.cmp .Eq (.var 5) (.tup .nil)) (.one (.cmp .Gt (.var 6) (.ix (.var 5) (.neg (.lit (.int 1)))))))) (.bin .Add (.var 5) (.tup (.cons (.var 6) .nil)))) .nil)))
  .nil))
  (.cons (.set 2 (.var 4))
  .nil))))
  (.cons (.ret (.var 2))
  .nil)))))
/- added: some place here one other -/
def b_added : IB :=
  (.cons (.ret (.blt .tuple (.cons (.blt .sorted (.cons (.comp [2] (.one 2) (.seq (.var 0)) .none (.blt .tuple (.cons (.comp [3, 4] (.two 3 4) (.zip (.var 2) (.var 1)) .none (.bin .Mod (.bin .Add (.var 3) (.var 4)) (.lit (.int 3)))) .nil))) .nil)) .nil)))
  .nil)
/- add_place: size some place -/
def b_add_place (i_added i_check_set i_fits x_InvalidPlace : Nat) : IB :=
  (.cons (.exp (.call i_check_set (.cons (.var 0) (.cons (.var 1) .nil))))
  (.cons (.ife (.not (.call i_fits (.cons (.var 0) (.cons (.var 2) .nil)))) (.cons (.rais x_InvalidPlace)
  .nil) .nil)
  (.cons (.ret (.call i_added (.cons (.var 1) (.cons (.var 2) .nil))))
  .nil)))
/- doubled: some here one -/
def b_doubled : IB :=
  (.cons (.ret (.blt .tuple (.cons (.blt .sorted (.cons (.comp [1] (.one 1) (.seq (.var 0)) .none (.blt .tuple (.cons (.comp [2] (.one 2) (.seq (.var 1)) .none (.bin .Mod (.bin .Mult (.lit (.int 2)) (.var 2)) (.lit (.int 3)))) .nil))) .nil)) .nil)))
  .nil)
/- double: size some -/
def b_double (i_check_set i_doubled : Nat) : IB :=
  (.cons (.exp (.call i_check_set (.cons (.var 0) (.cons (.var 1) .nil))))
  (.cons (.ret (.call i_doubled (.cons (.var 1) .nil)))
  .nil))
/- check_positions: size i j -/
def b_check_positions (i_is_integer x_InvalidPosition : Nat) : IB :=
  (.cons (.ife (.or (.not (.call i_is_integer (.cons (.var 1) (.cons (.lit (.int 0)) (.cons (.bin .Sub (.var 0) (.lit (.int 1))) .nil))))) (.or (.not (.call i_is_integer (.cons (.var 2) (.cons (.lit (.int 0)) (.cons (.bin .Sub (.var 0) (.lit (.int 1))) .nil))))) (.one (.cmp .Eq (.var 1) (.var 2))))) (.cons (.rais x_InvalidPosition)
  .nil) .nil)
  .nil)
/- put: place j value -/
def b_put : IB :=
  (.cons (.ret (.bin .Add (.bin .Add (.slc (.var 0) .none (.some (.var 1))) (.tup (.cons (.var 2) .nil))) (.slc (.var 0) (.some (.bin .Add (.var 1) (.lit (.int 1)))) .none)))
  .nil)
/- exchanged: some i j here -/
def b_exchanged (i_put : Nat) : IB :=
  (.cons (.ret (.blt .tuple (.cons (.blt .sorted (.cons (.comp [3] (.one 3) (.seq (.var 0)) .none (.call i_put (.cons (.call i_put (.cons (.var 3) (.cons (.var 1) (.cons (.ix (.var 3) (.var 2)) .nil)))) (.cons (.var 2) (.cons (.ix (.var 3) (.var 1)) .nil))))) .nil)) .nil)))
  .nil)
/- exchange: size some i j -/
def b_exchange (i_check_positions i_check_set i_exchanged : Nat) : IB :=
  (.cons (.exp (.call i_check_set (.cons (.var 0) (.cons (.var 1) .nil))))
  (.cons (.exp (.call i_check_positions (.cons (.var 0) (.cons (.var 2) (.cons (.var 3) .nil)))))
  (.cons (.ret (.call i_exchanged (.cons (.var 1) (.cons (.var 2) (.cons (.var 3) .nil)))))
  .nil)))
/- position_added: some i j here -/
def b_position_added (i_put : Nat) : IB :=
  (.cons (.ret (.blt .tuple (.cons (.blt .sorted (.cons (.comp [3] (.one 3) (.seq (.var 0)) .none (.call i_put (.cons (.var 3) (.cons (.var 2) (.cons (.bin .Mod (.bin .Add (.ix (.var 3) (.var 2)) (.ix (.var 3) (.var 1))) (.lit (.int 3))) .nil))))) .nil)) .nil)))
  .nil)
/- add_position: size some i j -/
def b_add_position (i_check_positions i_check_set i_position_added : Nat) : IB :=
  (.cons (.exp (.call i_check_set (.cons (.var 0) (.cons (.var 1) .nil))))
  (.cons (.exp (.call i_check_positions (.cons (.var 0) (.cons (.var 2) (.cons (.var 3) .nil)))))
  (.cons (.ret (.call i_position_added (.cons (.var 1) (.cons (.var 2) (.cons (.var 3) .nil)))))
  .nil)))
/- _law_move: _law_what _law_size _law_own _law_one _law_other _law_e -/
def b__law_move (i_add_place i_add_position i_double i_exchange : Nat) : IB :=
  (.cons (.tryW (.cons (.ife (.cmp .Eq (.var 0) (.lit (.int 0))) (.cons (.ret (.call i_add_place (.cons (.var 1) (.cons (.var 2) (.cons (.var 3) .nil)))))
  .nil) .nil)
  (.cons (.ife (.cmp .Eq (.var 0) (.lit (.int 1))) (.cons (.ret (.call i_double (.cons (.var 1) (.cons (.var 2) .nil))))
  .nil) .nil)
  (.cons (.ret (.callIx [i_exchange, i_add_position] (.bin .Sub (.var 0) (.lit (.int 2))) (.cons (.var 1) (.cons (.var 2) (.cons (.var 3) (.cons (.var 4) .nil))))))
  .nil))))
  .nil)
/- _law_move_k15: _law_what _law_size _law_own _law_one _law_other _law_e -/
def b__law_move_k15 (i_add_place i_add_position i_exchange : Nat) : IB :=
  (.cons (.tryW (.cons (.ife (.cmp .Eq (.var 0) (.lit (.int 0))) (.cons (.ret (.call i_add_place (.cons (.var 1) (.cons (.var 2) (.cons (.var 3) .nil)))))
  .nil) .nil)
  (.cons (.ret (.callIx [i_exchange, i_add_position] (.bin .Sub (.var 0) (.lit (.int 1))) (.cons (.var 1) (.cons (.var 2) (.cons (.var 3) (.cons (.var 4) .nil))))))
  .nil)))
  .nil)
/- alike_to: some found line here moved after -/
def b_alike_to (i_added i_doubled i_exchanged i_position_added : Nat) : IB :=
  (.cons (.set2 1 2 (.newD1 (.var 0) (.lit (.bool true))) (.newL (.cons (.var 0) .nil)))
  (.cons (.whl (.cmp .NotEq (.var 2) (.lst .nil)) (.cons (.set 3 (.mth .pop (.var 2) .nil))
  (.cons (.set 4 (.lst (.cons (.call i_added (.cons (.var 3) (.cons (.tup (.cons (.lit (.int 0)) (.cons (.lit (.int 1)) .nil))) .nil))) (.cons (.call i_added (.cons (.var 3) (.cons (.tup (.cons (.lit (.int 1)) (.cons (.lit (.int 0)) .nil))) .nil))) (.cons (.call i_doubled (.cons (.var 3) .nil)) (.cons (.call i_exchanged (.cons (.var 3) (.cons (.lit (.int 0)) (.cons (.lit (.int 1)) .nil)))) .nil))))))
  (.cons (.for_ (.one 5) (.seq (.bin .Add (.var 4) (.lst (.cons (.call i_position_added (.cons (.var 3) (.cons (.lit (.int 0)) (.cons (.lit (.int 1)) .nil)))) .nil)))) (.cons (.ife (.cmp .NotIn (.var 5) (.var 1)) (.cons (.setIx (.var 1) (.var 5) (.lit (.bool true)))
  (.cons (.exp (.mth .append (.var 2) (.cons (.var 5) .nil)))
  .nil)) .nil)
  .nil))
  .nil))))
  (.cons (.ret (.dlist (.var 1)))
  .nil)))
/- check_flat: some -/
def b_check_flat (i_lies x_InvalidSet : Nat) : IB :=
  (.cons (.ife (.not (.call i_lies (.cons (.lit (.int 2)) (.cons (.var 0) .nil)))) (.cons (.rais x_InvalidSet)
  .nil) .nil)
  .nil)
/- kind: some -/
def b_kind (i_alike_to i_check_flat : Nat) : IB :=
  (.cons (.exp (.call i_check_flat (.cons (.var 0) .nil)))
  (.cons (.ret (.blt .minD (.cons (.call i_alike_to (.cons (.var 0) .nil)) .nil)))
  .nil))
/- are_alike: one other -/
def b_are_alike (i_alike_to i_check_flat : Nat) : IB :=
  (.cons (.exp (.call i_check_flat (.cons (.var 0) .nil)))
  (.cons (.exp (.call i_check_flat (.cons (.var 1) .nil)))
  (.cons (.ret (.cmp .In (.var 1) (.call i_alike_to (.cons (.var 0) .nil))))
  .nil)))
/- _law_two: _law_one _law_other _law_e -/
def b__law_two (i_are_alike : Nat) : IB :=
  (.cons (.tryW (.cons (.ret (.call i_are_alike (.cons (.var 0) (.cons (.var 1) .nil))))
  .nil))
  .nil)
/- _law_two_k14: _law_what _law_size _law_some _law_e -/
def b__law_two_k14 (i_completed i_count_pure i_double i_first_line i_format_set i_is_complete i_is_free i_lines_in i_open_places : Nat) : IB :=
  (.cons (.tryW (.cons (.ife (.cmp .Lt (.var 0) (.lit (.int 4))) (.cons (.ret (.callIx [i_lines_in, i_is_free, i_first_line, i_count_pure] (.var 0) (.cons (.var 1) (.cons (.var 2) .nil))))
  .nil) .nil)
  (.cons (.ret (.callIx [i_open_places, i_is_complete, i_completed, i_double, i_format_set] (.bin .Sub (.var 0) (.lit (.int 4))) (.cons (.var 1) (.cons (.var 2) .nil))))
  .nil)))
  .nil)
/- kinds: count some place one found seen other -/
def b_kinds (i_alike_to i_all_places i_is_integer x_InvalidNumber : Nat) : IB :=
  (.cons (.ife (.not (.call i_is_integer (.cons (.var 0) (.cons (.lit (.int 0)) (.cons (.lit (.int 9)) .nil))))) (.cons (.rais x_InvalidNumber)
  .nil) .nil)
  (.cons (.set 1 (.lst (.cons (.tup .nil) .nil)))
  (.cons (.for_ (.one 2) (.seq (.call i_all_places (.cons (.lit (.int 2)) .nil))) (.cons (.set 1 (.bin .Add (.var 1) (.comp [3] (.one 3) (.seq (.var 1)) .none (.bin .Add (.var 3) (.tup (.cons (.var 2) .nil))))))
  .nil))
  (.cons (.set2 4 5 (.newL .nil) .newD)
  (.cons (.for_ (.one 3) (.seq (.blt .sorted (.cons (.comp [3] (.one 3) (.seq (.var 1)) (.some (.cmp .Eq (.blt .len (.cons (.var 3) .nil)) (.var 0))) (.var 3)) .nil))) (.cons (.ife (.cmp .NotIn (.var 3) (.var 5)) (.cons (.exp (.mth .append (.var 4) (.cons (.var 3) .nil)))
  (.cons (.for_ (.one 6) (.seq (.call i_alike_to (.cons (.var 3) .nil))) (.cons (.setIx (.var 5) (.var 6) (.lit (.bool true)))
  .nil))
  .nil)) .nil)
  .nil))
  (.cons (.ret (.var 4))
  .nil))))))
/- text_of: some words place value -/
def b_text_of : IB :=
  (.cons (.set 1 (.comp [2] (.one 2) (.seq (.var 0)) .none (.mth .join (.lit (.str "")) (.cons (.comp [3] (.one 3) (.seq (.var 2)) .none (.blt .str (.cons (.var 3) .nil))) .nil))))
  (.cons (.ret (.ite (.cmp .NotEq (.var 1) (.lst .nil)) (.mth .join (.lit (.str " ")) (.cons (.var 1) .nil)) (.lit (.str "none"))))
  .nil))
/- format_set: size some -/
def b_format_set (i_check_set i_text_of : Nat) : IB :=
  (.cons (.exp (.call i_check_set (.cons (.var 0) (.cons (.var 1) .nil))))
  (.cons (.ret (.call i_text_of (.cons (.var 1) .nil)))
  .nil))
/- parse_set: size text some word sign -/
def b_parse_set (i_check_size i_lies x_ParseError : Nat) : IB :=
  (.cons (.exp (.call i_check_size (.cons (.var 0) .nil)))
  (.cons (.ife (.not (.isT (.var 1) .str)) (.cons (.rais x_ParseError)
  .nil) .nil)
  (.cons (.ife (.cmp .Eq (.var 1) (.lit (.str "none"))) (.cons (.ret (.tup .nil))
  .nil) .nil)
  (.cons (.ife (.not (.blt .all (.cons (.comp [4] (.one 4) (.seq (.var 1)) .none (.cmp .In (.var 4) (.lit (.str "012 ")))) .nil))) (.cons (.rais x_ParseError)
  .nil) .nil)
  (.cons (.set 2 (.blt .tuple (.cons (.comp [3] (.one 3) (.seq (.mth .split (.var 1) (.cons (.lit (.str " ")) .nil))) .none (.blt .tuple (.cons (.comp [4] (.one 4) (.seq (.var 3)) .none (.blt .int (.cons (.var 4) .nil))) .nil))) .nil)))
  (.cons (.ife (.not (.call i_lies (.cons (.var 0) (.cons (.var 2) .nil)))) (.cons (.rais x_ParseError)
  .nil) .nil)
  (.cons (.ret (.var 2))
  .nil)))))))
/- _law_read: _law_size _law_text _law_e -/
def b__law_read (i_parse_set : Nat) : IB :=
  (.cons (.tryW (.cons (.ret (.call i_parse_set (.cons (.var 0) (.cons (.var 1) .nil))))
  .nil))
  .nil)
/- _wall: k -/
def b__wall : IB :=
  (.cons (.whl (.lit (.bool true)) (.cons .pass
  .nil))
  .nil)
/- _law_small_ones: _law_square -/
def b__law_small_ones (i_add_place i_add_position i_are_alike i_completed i_count_pure i_double i_exchange i_first_line i_free_sets i_greatest_size i_is_complete i_is_free i_is_line i_is_place i_kind i_kinds i_lines i_lines_in i_open_places i_third : Nat) : IB :=
  (.cons (.ife (.or (.cmp .NotEq (.call i_third (.cons (.lit (.int 2)) (.cons (.tup (.cons (.lit (.int 0)) (.cons (.lit (.int 1)) .nil))) (.cons (.tup (.cons (.lit (.int 0)) (.cons (.lit (.int 2)) .nil))) .nil)))) (.tup (.cons (.lit (.int 0)) (.cons (.lit (.int 0)) .nil)))) (.one (.cmp .IsNot (.call i_is_line (.cons (.lit (.int 2)) (.cons (.tup (.cons (.tup (.cons (.lit (.int 0)) (.cons (.lit (.int 0)) .nil))) (.cons (.tup (.cons (.lit (.int 1)) (.cons (.lit (.int 1)) .nil))) (.cons (.tup (.cons (.lit (.int 2)) (.cons (.lit (.int 2)) .nil))) .nil)))) .nil))) (.lit (.bool true))))) (.cons (.ret (.lit (.bool false)))
  .nil) .nil)
  (.cons (.ife (.cmp .NotEq (.call i_lines (.cons (.lit (.int 1)) .nil)) (.lst (.cons (.tup (.cons (.tup (.cons (.lit (.int 0)) .nil)) (.cons (.tup (.cons (.lit (.int 1)) .nil)) (.cons (.tup (.cons (.lit (.int 2)) .nil)) .nil)))) .nil))) (.cons (.ret (.lit (.bool false)))
  .nil) .nil)
  (.cons (.ife (.or (.cmp .IsNot (.call i_is_place (.cons (.lit (.int 2)) (.cons (.tup (.cons (.lit (.int 0)) (.cons (.lit (.int 2)) .nil))) .nil))) (.lit (.bool true))) (.or (.cmp .NotEq (.call i_count_pure (.cons (.lit (.int 2)) (.cons (.tup .nil) .nil))) (.lit (.int 12))) (.one (.cmp .NotEq (.call i_open_places (.cons (.lit (.int 1)) (.cons (.tup (.cons (.tup (.cons (.lit (.int 0)) .nil)) .nil)) .nil))) (.lst (.cons (.tup (.cons (.lit (.int 1)) .nil)) (.cons (.tup (.cons (.lit (.int 2)) .nil)) .nil))))))) (.cons (.ret (.lit (.bool false)))
  .nil) .nil)
  (.cons (.ife (.or (.cmp .NotEq (.call i_completed (.cons (.lit (.int 1)) (.cons (.tup (.cons (.tup (.cons (.lit (.int 1)) .nil)) .nil)) .nil))) (.tup (.cons (.tup (.cons (.lit (.int 0)) .nil)) (.cons (.tup (.cons (.lit (.int 1)) .nil)) .nil)))) (.or (.cmp .NotEq (.call i_greatest_size (.cons (.lit (.int 3)) .nil)) (.lit (.int 9))) (.one (.cmp .NotEq (.call i_free_sets (.cons (.lit (.int 1)) (.cons (.lit (.int 1)) .nil))) (.lst (.cons (.tup (.cons (.tup (.cons (.lit (.int 0)) .nil)) .nil)) (.cons (.tup (.cons (.tup (.cons (.lit (.int 1)) .nil)) .nil)) (.cons (.tup (.cons (.tup (.cons (.lit (.int 2)) .nil)) .nil)) .nil)))))))) (.cons (.ret (.lit (.bool false)))
  .nil) .nil)
  (.cons (.ife (.or (.cmp .NotEq (.call i_add_place (.cons (.lit (.int 1)) (.cons (.tup (.cons (.tup (.cons (.lit (.int 0)) .nil)) (.cons (.tup (.cons (.lit (.int 1)) .nil)) .nil))) (.cons (.tup (.cons (.lit (.int 1)) .nil)) .nil)))) (.tup (.cons (.tup (.cons (.lit (.int 1)) .nil)) (.cons (.tup (.cons (.lit (.int 2)) .nil)) .nil)))) (.one (.cmp .NotEq (.call i_double (.cons (.lit (.int 1)) (.cons (.tup (.cons (.tup (.cons (.lit (.int 1)) .nil)) .nil)) .nil))) (.tup (.cons (.tup (.cons (.lit (.int 2)) .nil)) .nil))))) (.cons (.ret (.lit (.bool false)))
  .nil) .nil)
  (.cons (.ife (.or (.cmp .NotEq (.call i_exchange (.cons (.lit (.int 2)) (.cons (.tup (.cons (.tup (.cons (.lit (.int 0)) (.cons (.lit (.int 1)) .nil))) .nil)) (.cons (.lit (.int 0)) (.cons (.lit (.int 1)) .nil))))) (.tup (.cons (.tup (.cons (.lit (.int 1)) (.cons (.lit (.int 0)) .nil))) .nil))) (.one (.cmp .NotEq (.call i_add_position (.cons (.lit (.int 2)) (.cons (.tup (.cons (.tup (.cons (.lit (.int 1)) (.cons (.lit (.int 1)) .nil))) .nil)) (.cons (.lit (.int 0)) (.cons (.lit (.int 1)) .nil))))) (.tup (.cons (.tup (.cons (.lit (.int 1)) (.cons (.lit (.int 2)) .nil))) .nil))))) (.cons (.ret (.lit (.bool false)))
  .nil) .nil)
  (.cons (.ife (.or (.cmp .NotEq (.call i_kind (.cons (.tup (.cons (.tup (.cons (.lit (.int 1)) (.cons (.lit (.int 2)) .nil))) .nil)) .nil)) (.tup (.cons (.tup (.cons (.lit (.int 0)) (.cons (.lit (.int 0)) .nil))) .nil))) (.one (.cmp .NotEq (.call i_kinds (.cons (.lit (.int 1)) .nil)) (.lst (.cons (.tup (.cons (.tup (.cons (.lit (.int 0)) (.cons (.lit (.int 0)) .nil))) .nil)) .nil))))) (.cons (.ret (.lit (.bool false)))
  .nil) .nil)
  (.cons (.set 0 (.tup (.cons (.tup (.cons (.lit (.int 0)) (.cons (.lit (.int 0)) .nil))) (.cons (.tup (.cons (.lit (.int 0)) (.cons (.lit (.int 1)) .nil))) (.cons (.tup (.cons (.lit (.int 1)) (.cons (.lit (.int 0)) .nil))) (.cons (.tup (.cons (.lit (.int 1)) (.cons (.lit (.int 1)) .nil))) .nil))))))
  (.cons (.ife (.or (.cmp .IsNot (.call i_is_free (.cons (.lit (.int 2)) (.cons (.var 0) .nil))) (.lit (.bool true))) (.or (.cmp .IsNot (.call i_is_complete (.cons (.lit (.int 2)) (.cons (.var 0) .nil))) (.lit (.bool true))) (.one (.cmp .NotEq (.call i_kind (.cons (.var 0) .nil)) (.var 0))))) (.cons (.ret (.lit (.bool false)))
  .nil) .nil)
  (.cons (.ife (.cmp .NotEq (.call i_first_line (.cons (.lit (.int 2)) (.cons (.tup (.cons (.tup (.cons (.lit (.int 0)) (.cons (.lit (.int 0)) .nil))) (.cons (.tup (.cons (.lit (.int 1)) (.cons (.lit (.int 1)) .nil))) (.cons (.tup (.cons (.lit (.int 1)) (.cons (.lit (.int 2)) .nil))) (.cons (.tup (.cons (.lit (.int 2)) (.cons (.lit (.int 2)) .nil))) .nil))))) .nil))) (.tup (.cons (.tup (.cons (.lit (.int 0)) (.cons (.lit (.int 0)) .nil))) (.cons (.tup (.cons (.lit (.int 1)) (.cons (.lit (.int 1)) .nil))) (.cons (.tup (.cons (.lit (.int 2)) (.cons (.lit (.int 2)) .nil))) .nil))))) (.cons (.ret (.lit (.bool false)))
  .nil) .nil)
  (.cons (.ife (.cmp .NotEq (.call i_lines_in (.cons (.lit (.int 2)) (.cons (.tup (.cons (.tup (.cons (.lit (.int 0)) (.cons (.lit (.int 0)) .nil))) (.cons (.tup (.cons (.lit (.int 0)) (.cons (.lit (.int 1)) .nil))) .nil))) .nil))) (.lst .nil)) (.cons (.ret (.lit (.bool false)))
  .nil) .nil)
  (.cons (.ret (.cmp .Is (.call i_are_alike (.cons (.var 0) (.cons (.tup (.cons (.tup (.cons (.lit (.int 0)) (.cons (.lit (.int 0)) .nil))) (.cons (.tup (.cons (.lit (.int 0)) (.cons (.lit (.int 2)) .nil))) (.cons (.tup (.cons (.lit (.int 2)) (.cons (.lit (.int 0)) .nil))) (.cons (.tup (.cons (.lit (.int 2)) (.cons (.lit (.int 2)) .nil))) .nil))))) .nil))) (.lit (.bool true))))
  .nil))))))))))))
/- _law_told: _law_size _law_own _law_flat _law_made -/
def b__law_told (i_completed i_free_sets i_kind i_kinds i_lines i_lines_in i_open_places : Nat) : IB :=
  (.cons (.set 3 (.lst (.cons (.call i_lines (.cons (.var 0) .nil)) (.cons (.call i_lines_in (.cons (.var 0) (.cons (.var 1) .nil))) (.cons (.call i_free_sets (.cons (.lit (.int 1)) (.cons (.lit (.int 2)) .nil))) (.cons (.call i_kinds (.cons (.bin .FloorDiv (.blt .len (.cons (.var 2) .nil)) (.lit (.int 5))) .nil)) (.cons (.call i_open_places (.cons (.var 0) (.cons (.slc (.var 1) .none (.some (.lit (.int 1)))) .nil))) .nil)))))))
  (.cons (.ret (.bin .Add (.var 3) (.lst (.cons (.lst (.cons (.call i_completed (.cons (.var 0) (.cons (.slc (.var 1) .none (.some (.lit (.int 1)))) .nil))) (.cons (.call i_kind (.cons (.slc (.var 2) .none (.some (.lit (.int 4)))) .nil)) .nil))) .nil))))
  .nil))
/- _law_more: _law_what _law_size _law_some _law_e -/
def b__law_more (i_add_place i_add_position i_exchange : Nat) : IB :=
  (.cons (.tryW (.cons (.ife (.cmp .Eq (.var 0) (.lit (.int 0))) (.cons (.ret (.call i_add_place (.cons (.var 1) (.cons (.var 2) (.cons (.lit .none) .nil)))))
  .nil) .nil)
  (.cons (.ret (.callIx [i_exchange, i_add_position] (.bin .Sub (.var 0) (.lit (.int 1))) (.cons (.var 1) (.cons (.var 2) (.cons (.lit .none) (.cons (.lit .none) .nil))))))
  .nil)))
  .nil)
/- _law_first: _law_what _law_size _law_e -/
def b__law_first (i_free_sets i_is_line i_is_place i_is_set i_parse_set i_third : Nat) : IB :=
  (.cons (.tryW (.cons (.ife (.cmp .Eq (.var 0) (.lit (.int 4))) (.cons (.ret (.call i_third (.cons (.var 1) (.cons (.lit .none) (.cons (.lit .none) .nil)))))
  .nil) .nil)
  (.cons (.ret (.callIx [i_is_place, i_is_line, i_is_set, i_parse_set, i_free_sets] (.ite (.cmp .Lt (.var 0) (.lit (.int 4))) (.var 0) (.lit (.int 4))) (.cons (.var 1) (.cons (.lit .none) .nil))))
  .nil)))
  .nil)
/- _law_pair: _law_size _law_one _law_other _law_e -/
def b__law_pair (i_third : Nat) : IB :=
  (.cons (.tryW (.cons (.ret (.call i_third (.cons (.var 0) (.cons (.var 1) (.cons (.var 2) .nil)))))
  .nil))
  .nil)
/- _law_count: _law_what _law_count_here _law_e -/
def b__law_count (i_free_sets i_kinds : Nat) : IB :=
  (.cons (.tryW (.cons (.ret (.ite (.cmp .Eq (.var 0) (.lit (.int 0))) (.call i_kinds (.cons (.var 1) .nil)) (.call i_free_sets (.cons (.var 0) (.cons (.var 1) .nil)))))
  .nil))
  .nil)
/- _law_set: _law_what _law_size _law_own _law_e -/
def b__law_set (i_first_line i_is_complete : Nat) : IB :=
  (.cons (.tryW (.cons (.ret (.callIx [i_first_line, i_is_complete] (.var 0) (.cons (.var 1) (.cons (.var 2) .nil))))
  .nil))
  .nil)
end PD

set_option Elab.async false
set_option linter.all false
set_option maxRecDepth 100000
set_option maxHeartbeats 2000000
/-! The evaluator's equations, for simp. -/
namespace PD
open PySem
section
variable {α β : Type} {G : List Fn} {env : Env} {st : Store}
@[simp] theorem bind_ok {a : α} {f : α → Store → R β} : (R.ok a st).bind f = f a st := rfl
@[simp] theorem bind_exc {c : Nat} {f : α → Store → R β} : (R.exc c st : R α).bind f = .exc c st := rfl
@[simp] theorem toF_ok {a : α} {f : α → Store → F} : (R.ok a st).toF f = f a st := rfl
@[simp] theorem toF_exc {c : Nat} {f : α → Store → F} : (R.exc c st : R α).toF f = .exc c st := rfl
@[simp] theorem fb_nx {f : Env → Store → F} : (F.nx env st).bind f = f env st := rfl
@[simp] theorem fb_ret {v : EV} {f : Env → Store → F} : (F.ret v st).bind f = .ret v st := rfl
@[simp] theorem fb_exc {c : Nat} {f : Env → Store → F} : (F.exc c st).bind f = .exc c st := rfl
@[simp] theorem ofO_some {d : PyData} : ofO st (some d) = .ok (.dat d) st := rfl
@[simp] theorem rd_dat {d : PyData} : rd st (.dat d) = some d := rfl
@[simp] theorem rds_nil : rds st [] = some [] := rfl
@[simp] theorem rds_cons {v : EV} {vs : List EV} {d : PyData} {ds : List PyData} (h : rd st v = some d) (h2 : rds st vs = some ds) : rds st (v :: vs) = some (d :: ds) := by
  unfold rds
  rw [h, h2]
@[simp] theorem dats_nil : dats [] = some [] := rfl
@[simp] theorem ev_lit {d : PyData} : ev G (.lit d) env st = .ok (.dat d) st := rfl
@[simp] theorem ev_neg {a : IE} : ev G (.neg a) env st = (ev G a env st).bind fun x st1 => match x with
    | .dat (.int i) => .ok (.dat (.int (-i))) st1
    | _ => .err := rfl
@[simp] theorem ev_bin {op : Operator} {a b : IE} : ev G (.bin op a b) env st = (ev G a env st).bind fun x st1 => (ev G b env st1).bind fun y st2 => match rd st2 x, rd st2 y with
    | some d, some e => ofO st2 (binop op d e)
    | _, _ => .err := rfl
@[simp] theorem ev_cmp {op : CmpOp} {a b : IE} : ev G (.cmp op a b) env st = (ev G a env st).bind fun x st1 => (ev G b env st1).bind fun y st2 => cmpV op x y st2 := rfl
@[simp] theorem ev_ix {a i : IE} : ev G (.ix a i) env st = (ev G a env st).bind fun x st1 => (ev G i env st1).bind fun y st2 => ixV x y st2 := rfl
@[simp] theorem ev_blt {b : Blt} {es : IA} : ev G (.blt b es) env st = (evs G es env st).bind fun vs st1 => match rds st1 vs with
    | some ds => ofO st1 (bltD b ds)
    | none => .err := rfl
@[simp] theorem ev_call {f : Nat} {es : IA} : ev G (.call f es) env st = (evs G es env st).bind fun vs st1 => callF G f vs st1 := rfl
@[simp] theorem ev_lst {es : IA} : ev G (.lst es) env st = (evs G es env st).bind fun vs st1 => match dats vs with
    | some ds => .ok (.dat (.list ds)) st1
    | none => .err := rfl
@[simp] theorem ev_newL {es : IA} : ev G (.newL es) env st = (evs G es env st).bind fun vs st1 => match dats vs with
    | some ds => .ok (.loc st1.length) (st1 ++ [.lst ds])
    | none => .err := rfl
@[simp] theorem ev_tup {es : IA} : ev G (.tup es) env st = (evs G es env st).bind fun vs st1 => match dats vs with
    | some ds => .ok (.dat (.tuple ds)) st1
    | none => .err := rfl
@[simp] theorem ev_mth {m : Mth} {o : IE} {es : IA} : ev G (.mth m o es) env st = (ev G o env st).bind fun x st1 => if mthOk m x st1 then (evs G es env st1).bind fun vs st2 => mthD m x vs st2 else .err := rfl
@[simp] theorem evs_nil : evs G .nil env st = .ok [] st := rfl
@[simp] theorem evs_cons {e : IE} {es : IA} : evs G (.cons e es) env st = (ev G e env st).bind fun x st1 => (evs G es env st1).bind fun xs st2 => .ok (x :: xs) st2 := rfl
@[simp] theorem evI_range1 {e : IE} : evI G (.range1 e) env st = (ev G e env st).bind fun x st1 => match x with
    | .dat (.int n) => if tiny n then .ok ⟨rangeD 0 1 n.toNat, none⟩ st1 else .err
    | _ => .err := rfl
@[simp] theorem exB_nil : exB G .nil env st = .nx env st := rfl
@[simp] theorem exB_cons {s : IS} {b : IB} : exB G (.cons s b) env st = (ex G s env st).bind fun env1 st1 => exB G b env1 st1 := rfl
@[simp] theorem ex_set {i : Nat} {e : IE} : ex G (.set i e) env st = (ev G e env st).toF fun v st1 => .nx (env.set i (some v)) st1 := rfl
@[simp] theorem ex_exp {e : IE} : ex G (.exp e) env st = (ev G e env st).toF fun _ st1 => .nx env st1 := rfl
@[simp] theorem ex_ret {e : IE} : ex G (.ret e) env st = (ev G e env st).toF fun v st1 => .ret v st1 := rfl
@[simp] theorem ex_ife {t : IE} {a b : IB} : ex G (.ife t a b) env st = (ev G t env st).toF fun x st1 => match x with
    | .dat (.bool true) => exB G a env st1
    | .dat (.bool false) => exB G b env st1
    | _ => .err := rfl
theorem ex_for {tg : Tg} {it : II} {a : IB} : ex G (.for_ tg it a) env st = (evI G it env st).toF fun its st1 => forL (guardOk its.src) (fun d env1 st2 => match bindT tg env1 d with
    | some env2 => exB G a env2 st2
    | none => .err) its.ds env st1 := rfl
theorem ev_var {i : Nat} {v : EV} (h : env[i]? = some (some v)) : ev G (.var i) env st = .ok v st := by
  unfold ev
  rw [h]
theorem callF_at {f : Nat} {vs : List EV} {e : Fn} (h : G[f]? = some e) (hl : vs.length = e.ar) : callF G f vs st = e.den vs st := by
  unfold callF
  rw [h]
  dsimp only
  rw [if_pos hl]
theorem run_ret {slots : Nat} {b : IB} {args : List EV} {v : EV} {st1 : Store} (h : exB G b (startE slots args) st = .ret v st1) : runDef G slots b args st = fin st.length v st1 := by
  unfold runDef
  rw [h]
theorem fin_dat {d : PyData} {st1 : Store} (h : st1.length = st.length) : fin st.length (.dat d) st1 = .ok (.dat d) st1 := by
  unfold fin
  rw [← h, List.take_length]
theorem cmp_dat {op : CmpOp} {a b : PyData} {r : Bool} (h : cmpD op a b = some r) : cmpV op (.dat a) (.dat b) st = .ok (.dat (.bool r)) st := by
  cases op <;> simp [cmpV, h]
theorem ix_list {ds : List PyData} {i : Int} {d : PyData} (h : atD ds i = some d) : ixV (.dat (.list ds)) (.dat (.int i)) st = .ok (.dat d) st := by
  unfold ixV
  simp [seqOf, h]
theorem at_pos {ds : List PyData} {i : Int} {j : Nat} {d : PyData} (h0 : 0 ≤ i) (hj : i.toNat = j) (h : ds[j]? = some d) : atD ds i = some d := by
  have hl : j < ds.length := (List.getElem?_eq_some_iff.mp h).1
  unfold atD L2.atI L2.ixN
  rw [if_pos h0, if_pos (by omega), hj]
  exact h
end
end PD
namespace PD
open PySem
/-! Steps with their results as premises: the kernel never looks into an operation. -/
section
variable {G : List Fn} {env : Env} {st st1 st2 st3 : Store}
theorem bin_ok {op : Operator} {a b : IE} {d e r : PyData} (h1 : ev G a env st = .ok (.dat d) st1) (h2 : ev G b env st1 = .ok (.dat e) st2) (h : binop op d e = some r) : ev G (.bin op a b) env st = .ok (.dat r) st2 := by
  rw [ev_bin, h1, bind_ok, h2, bind_ok]
  show ofO st2 (binop op d e) = _
  rw [h]
  rfl
theorem cmp_ok {op : CmpOp} {a b : IE} {d e : PyData} {r : Bool} (h1 : ev G a env st = .ok (.dat d) st1) (h2 : ev G b env st1 = .ok (.dat e) st2) (h : cmpD op d e = some r) : ev G (.cmp op a b) env st = .ok (.dat (.bool r)) st2 := by
  rw [ev_cmp, h1, bind_ok, h2, bind_ok, cmp_dat h]
theorem ix_ok {a i : IE} {ds : List PyData} {n : Int} {d : PyData} (h1 : ev G a env st = .ok (.dat (.list ds)) st1) (h2 : ev G i env st1 = .ok (.dat (.int n)) st2) (h : atD ds n = some d) : ev G (.ix a i) env st = .ok (.dat d) st2 := by
  rw [ev_ix, h1, bind_ok, h2, bind_ok, ix_list h]
theorem blt1_ok {f : Blt} {a : IE} {v : EV} {d r : PyData} (h1 : ev G a env st = .ok v st1) (hv : rd st1 v = some d) (h : bltD f [d] = some r) : ev G (.blt f (.cons a .nil)) env st = .ok (.dat r) st1 := by
  have e : evs G (.cons a .nil) env st = .ok [v] st1 := by rw [evs_cons, h1]; rfl
  rw [ev_blt, e, bind_ok, rds_cons hv rds_nil]
  show ofO st1 (bltD f [d]) = _
  rw [h]
  rfl
theorem blt2_ok {f : Blt} {a b : IE} {d e r : PyData} (h1 : ev G a env st = .ok (.dat d) st1) (h2 : ev G b env st1 = .ok (.dat e) st2) (h : bltD f [d, e] = some r) : ev G (.blt f (.cons a (.cons b .nil))) env st = .ok (.dat r) st2 := by
  have e' : evs G (.cons a (.cons b .nil)) env st = .ok [.dat d, .dat e] st2 := by rw [evs_cons, h1, bind_ok, evs_cons, h2]; rfl
  have h3 : rds st2 [.dat d, .dat e] = some [d, e] := rfl
  rw [ev_blt, e', bind_ok, h3]
  show ofO st2 (bltD f [d, e]) = _
  rw [h]
  rfl
theorem callE_ok {f : Nat} {es : IA} {vs : List EV} {e : Fn} {v : EV} (h1 : evs G es env st = .ok vs st1) (hg : G[f]? = some e) (hl : vs.length = e.ar) (h : e.den vs st1 = .ok v st2) : ev G (.call f es) env st = .ok v st2 := by
  rw [ev_call, h1, bind_ok, callF_at hg hl, h]
theorem evs2_ok {a b : IE} {v w : EV} (h1 : ev G a env st = .ok v st1) (h2 : ev G b env st1 = .ok w st2) : evs G (.cons a (.cons b .nil)) env st = .ok [v, w] st2 := by
  rw [evs_cons, h1, bind_ok, evs_cons, h2]
  rfl
theorem evs3_ok {a b c : IE} {v w x : EV} (h1 : ev G a env st = .ok v st1) (h2 : ev G b env st1 = .ok w st2) (h3 : ev G c env st2 = .ok x st3) : evs G (.cons a (.cons b (.cons c .nil))) env st = .ok [v, w, x] st3 := by
  rw [evs_cons, h1, bind_ok, evs2_ok h2 h3]
  rfl
theorem evs1_ok {a : IE} {v : EV} (h1 : ev G a env st = .ok v st1) : evs G (.cons a .nil) env st = .ok [v] st1 := by
  rw [evs_cons, h1]
  rfl
theorem if_t {t : IE} {a b : IB} (h : ev G t env st = .ok (.dat (.bool true)) st1) : ex G (.ife t a b) env st = exB G a env st1 := by
  rw [ex_ife, h]
  rfl
theorem if_f {t : IE} {a b : IB} (h : ev G t env st = .ok (.dat (.bool false)) st1) : ex G (.ife t a b) env st = exB G b env st1 := by
  rw [ex_ife, h]
  rfl
theorem set_ok {i : Nat} {e : IE} {v : EV} (h : ev G e env st = .ok v st1) : ex G (.set i e) env st = .nx (env.set i (some v)) st1 := by
  rw [ex_set, h]
  rfl
theorem ret_ok {e : IE} {v : EV} (h : ev G e env st = .ok v st1) : ex G (.ret e) env st = .ret v st1 := by
  rw [ex_ret, h]
  rfl
theorem exp_ok {e : IE} {v : EV} (h : ev G e env st = .ok v st1) : ex G (.exp e) env st = .nx env st1 := by
  rw [ex_exp, h]
  rfl
theorem seq_nx {s : IS} {b : IB} {env1 : Env} (h : ex G s env st = .nx env1 st1) : exB G (.cons s b) env st = exB G b env1 st1 := by
  rw [exB_cons, h]
  rfl
theorem seq_ret {s : IS} {b : IB} {v : EV} (h : ex G s env st = .ret v st1) : exB G (.cons s b) env st = .ret v st1 := by
  rw [exB_cons, h]
  rfl
theorem range1_ok {e : IE} {n : Int} (h : ev G e env st = .ok (.dat (.int n)) st1) (ht : tiny n = true) : evI G (.range1 e) env st = .ok ⟨rangeD 0 1 n.toNat, none⟩ st1 := by
  rw [evI_range1, h]
  show (if tiny n then _ else _) = _
  rw [if_pos ht]
end
end PD

set_option Elab.async false
set_option linter.all false
set_option maxRecDepth 100000
set_option maxHeartbeats 2000000
/-! The draws of the laws. -/
namespace PD
open PySem
def script (ns : List Int) : PyData := .list (ns.map PyData.int)
theorem shaped_ints (ns : List Int) : SeqAt.shaped (.list (ns.map PyData.int)) = true := by
  have h1 : ∀ ns : List Int, PyData.canLayAll0 (ns.map PyData.int) = true := fun ns => by
    induction ns with
    | nil => rfl
    | cons n r ih =>
      rw [List.map_cons, PyData.canLayAll0, ih]
      rfl
  have h2 : ∀ ns : List Int, PyData.depthAll (ns.map PyData.int) = 0 := fun ns => by
    induction ns with
    | nil => rfl
    | cons n r ih =>
      rw [List.map_cons, PyData.depthAll, ih]
      rfl
  unfold SeqAt.shaped
  rw [PyData.canLay0, h1, PyData.depth, h2]
  rfl
theorem forL_spare (G : List Fn) (st : Store) (a b : EV) : ∀ (ds : List PyData) (v : Int) (o : Option EV), ∃ (v' : Int) (o' : Option EV), forL (guardOk none) (fun d env st2 => match bindT (.one 3) env d with
    | some env2 => exB G (.cons (.set 2 (.bin .FloorDiv (.var 2) (.lit (.int 1000003)))) .nil) env2 st2
    | none => .err) ds [some a, some b, some (.dat (.int v)), o] st = .nx [some a, some b, some (.dat (.int v')), o'] st
  | [], v, o => ⟨v, o, rfl⟩
  | d :: r, v, o => by
    obtain ⟨v', o', h⟩ := forL_spare G st a b r (v / 1000003) (some (.dat d))
    refine ⟨v', o', ?_⟩
    rw [← h]
    rfl
def v60 (L : List Int) (k : Nat) : Int := if (60 : Int) < (k : Int) / (L.length : Nat) then 60 else (k : Int) / (L.length : Nat)
theorem d_eq (L : List Int) (h : 0 < L.length) : cmpD .Eq (script L) (.list []) = some false := by
  cases L with
  | nil => exact absurd h (Nat.lt_irrefl 0)
  | cons m r =>
    have s1 : shape2 (script (m :: r)) (.list []) = true := by
      unfold shape2
      rw [show SeqAt.shaped (script (m :: r)) = true from shaped_ints _]
      rfl
    show (if shape2 _ _ then some (PyData.eqv (.list (PyData.int m :: r.map PyData.int)) (.list [])) else none) = some false
    rw [if_pos s1, PyData.eqv, PyData.eqvAll]
theorem d_md (k n : Int) (h : 0 < n) : binop .Mod (.int k) (.int n) = some (.int (k % n)) := by
  show (if decide _ then _ else _) = _
  rw [if_pos (decide_eq_true h)]
theorem d_fd (k n : Int) (h : 0 < n) (h2 : n < 1073741824) : binop .FloorDiv (.int k) (.int n) = some (.int (k / n)) := by
  show (if decide _ && decide _ then _ else _) = _
  rw [if_pos (by rw [Bool.and_eq_true]; exact ⟨decide_eq_true h, decide_eq_true h2⟩)]
theorem d_mn (L : List Int) (k : Nat) : bltD .min2 [.int ((k : Int) / (L.length : Nat)), .int 60] = some (.int (v60 L k)) := rfl
theorem d_ty (L : List Int) (k : Nat) : tiny (v60 L k) = true := by
  have q0 : 0 ≤ (k : Int) / (L.length : Nat) := Int.ediv_nonneg (Int.natCast_nonneg _) (Int.natCast_nonneg _)
  unfold tiny v60
  rw [Bool.and_eq_true, decide_eq_true_eq, decide_eq_true_eq]
  generalize (k : Int) / (L.length : Nat) = x at *
  split <;> constructor <;> omega
theorem d_mu1 (i : Int) : binop .Mult (.int i) (.int 31) = some (.int (i * 31)) := by
  show (if small _ || small _ then _ else _) = _
  rw [if_pos (by rw [Bool.or_eq_true]; exact .inr (by decide +kernel))]
theorem d_mu2 (i : Int) : binop .Mult (.int i) (.int 101) = some (.int (i * 101)) := by
  show (if small _ || small _ then _ else _) = _
  rw [if_pos (by rw [Bool.or_eq_true]; exact .inr (by decide +kernel))]
theorem d_ad (i j : Int) : binop .Add (.int i) (.int j) = some (.int (i + j)) := rfl
theorem d_len (L : List Int) : bltD .len [script L] = some (.int L.length) := by
  show some (PyData.int ((L.map PyData.int).length : Nat)) = _
  rw [List.length_map]
theorem d_lt (i j : Int) : cmpD .Lt (.int i) (.int j) = some (decide (i < j)) := rfl
theorem rd2 (st : Store) (a b : PyData) : rds st [.dat a, .dat b] = some [a, b] := rfl
theorem rd1 (st : Store) (a : PyData) : rds st [.dat a] = some [a] := rfl
theorem cell_it (G : List Fn) (L : List Int) (k : Nat) (st : Store) (o p : Option EV) (h : 0 < L.length) (h2 : L.length ≤ 63) : evI G (.range1 (.blt .min2 (.cons (.bin .FloorDiv (.var 1) (.blt .len (.cons (.var 0) .nil))) (.cons (.lit (.int 60)) .nil)))) [some (.dat (script L)), some (.dat (.int k)), o, p] st = .ok ⟨rangeD 0 1 (v60 L k).toNat, none⟩ st := by
  have v0 : ev G (.var 0) [some (.dat (script L)), some (.dat (.int k)), o, p] st = .ok (.dat (script L)) st := rfl
  have v1 : ev G (.var 1) [some (.dat (script L)), some (.dat (.int k)), o, p] st = .ok (.dat (.int k)) st := rfl
  exact range1_ok (blt2_ok (bin_ok v1 (blt1_ok v0 rfl (d_len L)) (d_fd k (L.length : Nat) (by omega) (by omega))) rfl (d_mn L k)) (d_ty L k)
theorem cell_for (G : List Fn) (L : List Int) (k : Nat) (st : Store) (x : Int) (h : 0 < L.length) (h2 : L.length ≤ 63) : ∃ (w : Int) (o : Option EV), ex G (.for_ (.one 3) (.range1 (.blt .min2 (.cons (.bin .FloorDiv (.var 1) (.blt .len (.cons (.var 0) .nil))) (.cons (.lit (.int 60)) .nil)))) (.cons (.set 2 (.bin .FloorDiv (.var 2) (.lit (.int 1000003)))) .nil)) [some (.dat (script L)), some (.dat (.int k)), some (.dat (.int x)), none] st = .nx [some (.dat (script L)), some (.dat (.int k)), some (.dat (.int w)), o] st := by
  obtain ⟨w, o, hw⟩ := forL_spare G st (.dat (script L)) (.dat (.int k)) (rangeD 0 1 (v60 L k).toNat) x none
  refine ⟨w, o, ?_⟩
  rw [ex_for, cell_it G L k st _ _ h h2]
  exact hw
theorem cell_ok (G : List Fn) (L : List Int) (k : Nat) (st : Store) (hl : L.length ≤ 63) : ∃ v : Int, runDef G 4 b__law_cell_at [.dat (script L), .dat (.int k)] st = .ok (.dat (.int v)) st := by
  have v0 : ∀ {o p : Option EV}, ev G (.var 0) [some (.dat (script L)), some (.dat (.int k)), o, p] st = .ok (.dat (script L)) st := fun {o p} => rfl
  have v1 : ∀ {o p : Option EV}, ev G (.var 1) [some (.dat (script L)), some (.dat (.int k)), o, p] st = .ok (.dat (.int k)) st := fun {o p} => rfl
  have v2 : ∀ {p : Option EV} {x : Int}, ev G (.var 2) [some (.dat (script L)), some (.dat (.int k)), some (.dat (.int x)), p] st = .ok (.dat (.int x)) st := fun {p x} => rfl
  have env0 : startE 4 [.dat (script L), .dat (.int k)] = [some (.dat (script L)), some (.dat (.int k)), none, none] := rfl
  have fin0 : ∀ v : Int, fin st.length (.dat (.int v)) st = .ok (.dat (.int v)) st := fun v => fin_dat rfl
  by_cases h1 : k < L.length
  · have e : atD (L.map PyData.int) (k : Int) = some (.int L[k]) := at_pos (by omega) (by omega : (k : Int).toNat = k) (by simp [h1])
    have lt : cmpD .Lt (.int k) (.int L.length) = some true := by rw [d_lt, decide_eq_true (by omega)]
    refine ⟨L[k], (run_ret ?_).trans (fin0 _)⟩
    rw [env0, b__law_cell_at]
    refine seq_ret ?_
    rw [if_t (cmp_ok v1 (blt1_ok v0 rfl (d_len L)) lt)]
    exact seq_ret (ret_ok (ix_ok v0 v1 e))
  · have lt : cmpD .Lt (.int k) (.int L.length) = some false := by rw [d_lt, decide_eq_false (by omega)]
    cases h2 : L.length with
    | zero =>
      have hn : L = [] := List.eq_nil_of_length_eq_zero h2
      have eq : cmpD .Eq (script L) (.list []) = some true := by rw [hn]; decide +kernel
      refine ⟨0, (run_ret ?_).trans (fin0 _)⟩
      rw [env0, b__law_cell_at]
      refine (seq_nx (if_f (cmp_ok v1 (blt1_ok v0 rfl (d_len L)) lt))).trans ?_
      refine seq_ret ?_
      rw [if_t (cmp_ok v0 rfl eq)]
      rfl
    | succ m =>
      have npos : 0 < L.length := by omega
      have hlt : k % L.length < L.length := Nat.mod_lt _ npos
      have e : atD (L.map PyData.int) ((k : Int) % (L.length : Nat)) = some (.int L[k % L.length]) := at_pos (by omega) (by omega : ((k : Int) % (L.length : Nat)).toNat = k % L.length) (by simp [hlt])
      have md := d_md k (L.length : Nat) (by omega)
      obtain ⟨w, o, hw⟩ := cell_for G L k st L[k % L.length] npos hl
      refine ⟨L[k % L.length] * 31 + k + w * 101, (run_ret ?_).trans (fin0 _)⟩
      rw [env0, b__law_cell_at]
      refine (seq_nx (if_f (cmp_ok v1 (blt1_ok v0 rfl (d_len L)) lt))).trans ?_
      refine (seq_nx (if_f (cmp_ok v0 rfl (d_eq L npos)))).trans ?_
      refine (seq_nx (set_ok (ix_ok v0 (bin_ok v1 (blt1_ok v0 rfl (d_len L)) md) e))).trans ?_
      refine (seq_nx hw).trans ?_
      exact seq_ret (ret_ok (bin_ok (bin_ok (bin_ok (ix_ok v0 (bin_ok v1 (blt1_ok v0 rfl (d_len L)) md) e) rfl (d_mu1 _)) v1 (d_ad _ _)) (bin_ok v2 rfl (d_mu2 _)) (d_ad _ _)))
def IsCell (L : List Int) (f : Fn) : Prop := f.ar = 2 ∧ ∀ (k : Nat) (st : Store), ∃ v : Int, f.den [.dat (script L), .dat (.int k)] st = .ok (.dat (.int v)) st
def IsMixed (L : List Int) (f : Fn) : Prop := f.ar = 3 ∧ ∀ (k : Nat) (m : Int) (st : Store), 0 < m → k < 1000000 → ∃ v : Int, 0 ≤ v ∧ v < m ∧ f.den [.dat (script L), .dat (.int k), .dat (.int m)] st = .ok (.dat (.int v)) st
def IsDraw (L : List Int) (f : Fn) : Prop := f.ar = 3 ∧ ∀ (n : Nat) (ds : List PyData) (m : Int) (st : Store), st[n]? = some (.lst ds) → ds.length < 900000 → 0 < m → ∃ v : Int, 0 ≤ v ∧ v < m ∧ f.den [.dat (script L), .loc n, .dat (.int m)] st = .ok (.dat (.int v)) (st.set n (.lst (ds ++ [.int 0])))
def IsPick (L : List Int) (f : Fn) : Prop := f.ar = 3 ∧ ∀ (n : Nat) (ds xs : List PyData) (st : Store), st[n]? = some (.lst ds) → ds.length < 900000 → 0 < xs.length → ∃ (i : Nat) (h : i < xs.length), f.den [.dat (script L), .loc n, .dat (.list xs)] st = .ok (.dat xs[i]) (st.set n (.lst (ds ++ [.int 0])))
theorem isCell {nm : Str} (G : List Fn) {L : List Int} (hl : L.length ≤ 63) : IsCell L ⟨nm, 2, runDef G 4 b__law_cell_at⟩ := ⟨rfl, fun k st => cell_ok G L k st hl⟩
theorem d_mu (i j : Int) (h : small i = true ∨ small j = true) : binop .Mult (.int i) (.int j) = some (.int (i * j)) := by
  show (if small _ || small _ then _ else _) = _
  rw [if_pos (by rw [Bool.or_eq_true]; exact h)]
theorem d_pow (i : Int) (h : i.natAbs < 2 ^ 64) : binop .Pow (.int i) (.int 5) = some (.int (i ^ 5)) := by
  show (if decide _ && decide _ && decide (i.natAbs < 2 ^ 64) then _ else _) = _
  rw [if_pos (by rw [Bool.and_eq_true, decide_eq_true_eq]; exact ⟨by decide +kernel, h⟩)]
  rfl
theorem isMixed {nm : Str} {G : List Fn} {L : List Int} {i : Nat} {c : Fn} (hc : G[i]? = some c) (h : IsCell L c) : IsMixed L ⟨nm, 3, runDef G 4 (b__law_mixed i)⟩ := by
  refine ⟨rfl, fun k m st hm hk => ?_⟩
  obtain ⟨x, hx⟩ := h.2 k st
  have v0 : ∀ {o : Option EV}, ev G (.var 0) [some (.dat (script L)), some (.dat (.int k)), some (.dat (.int m)), o] st = .ok (.dat (script L)) st := fun {o} => rfl
  have v1 : ∀ {o : Option EV}, ev G (.var 1) [some (.dat (script L)), some (.dat (.int k)), some (.dat (.int m)), o] st = .ok (.dat (.int k)) st := fun {o} => rfl
  have v2 : ∀ {o : Option EV}, ev G (.var 2) [some (.dat (script L)), some (.dat (.int k)), some (.dat (.int m)), o] st = .ok (.dat (.int m)) st := fun {o} => rfl
  have v3 : ∀ {x : EV}, ev G (.var 3) [some (.dat (script L)), some (.dat (.int k)), some (.dat (.int m)), some x] st = .ok x st := fun {x} => rfl
  have env0 : startE 4 [.dat (script L), .dat (.int k), .dat (.int m)] = [some (.dat (script L)), some (.dat (.int k)), some (.dat (.int m)), none] := rfl
  have hcall : ev G (.call i (.cons (.var 0) (.cons (.var 1) .nil))) [some (.dat (script L)), some (.dat (.int k)), some (.dat (.int m)), none] st = .ok (.dat (.int x)) st := callE_ok (evs2_ok v0 v1) hc h.1.symm hx
  have hs : ((x * 1103515245 + 7919 * k + 12345) % 2147483647 : Int).natAbs < 2 ^ 64 := by
    generalize (x * 1103515245 + 7919 * k + 12345 : Int) = y
    omega
  refine ⟨((x * 1103515245 + 7919 * k + 12345) % 2147483647) ^ 5 % 2147483647 % 999983 % m, Int.emod_nonneg _ (by omega), Int.emod_lt_of_pos _ hm, (run_ret ?_).trans (fin_dat rfl)⟩
  rw [env0, b__law_mixed]
  refine (seq_nx (set_ok (bin_ok (bin_ok (bin_ok (bin_ok hcall rfl (d_mu _ _ (.inr (by decide +kernel)))) (bin_ok rfl v1 (d_mu _ _ (.inl (by decide +kernel)))) (d_ad _ _)) rfl (d_ad _ _)) rfl (d_md _ _ (by decide +kernel))))).trans ?_
  exact seq_ret (ret_ok (bin_ok (bin_ok (bin_ok (bin_ok v3 rfl (d_pow _ hs)) rfl (d_md _ _ (by decide +kernel))) rfl (d_md _ _ (by decide +kernel))) v2 (d_md _ _ hm)))
theorem get_set {st : Store} {n : Nat} {c d : Cell} (h : st[n]? = some c) : (st.set n d)[n]? = some d := by
  have := (List.getElem?_eq_some_iff.mp h).1
  rw [List.getElem?_set_self this]
theorem isDraw {nm : Str} {G : List Fn} {L : List Int} {i : Nat} {c : Fn} (hc : G[i]? = some c) (h : IsMixed L c) : IsDraw L ⟨nm, 3, runDef G 3 (b__law_draw i)⟩ := by
  refine ⟨rfl, fun n ds m st hn hd hm => ?_⟩
  have hn2 : (st.set n (.lst (ds ++ [.int 0])))[n]? = some (.lst (ds ++ [.int 0])) := get_set hn
  obtain ⟨x, hx0, hxm, hx⟩ := h.2 (ds.length + 1) m (st.set n (.lst (ds ++ [.int 0]))) hm (by omega)
  refine ⟨x, hx0, hxm, (run_ret ?_).trans (fin_dat (List.length_set ..))⟩
  have env0 : startE 3 [.dat (script L), .loc n, .dat (.int m)] = [some (.dat (script L)), some (.loc n), some (.dat (.int m))] := rfl
  have hap : ev G (.mth .append (.var 1) (.cons (.lit (.int 0)) .nil)) [some (.dat (script L)), some (.loc n), some (.dat (.int m))] st = .ok (.dat .none) (st.set n (.lst (ds ++ [.int 0]))) := by
    have e1 : ev G (.var 1) [some (.dat (script L)), some (.loc n), some (.dat (.int m))] st = .ok (.loc n) st := rfl
    have e2 : mthOk .append (.loc n) st = true := by
      simp [mthOk, isLst, hn]
    rw [ev_mth, e1, bind_ok, if_pos e2, evs1_ok (v := .dat (.int 0)) rfl, bind_ok]
    show appD st (.loc n) [.dat (.int 0)] = _
    have hlim : ds.length < LIM := by unfold LIM; omega
    unfold appD
    simp only [hn]
    rw [if_pos hlim]
  have hlen : bltD .len [.list (ds ++ [.int 0])] = some (.int ((ds.length + 1 : Nat) : Int)) := by
    show some (PyData.int ((ds ++ [PyData.int 0]).length : Nat)) = _
    rw [List.length_append]
    rfl
  have hrd : rd (st.set n (.lst (ds ++ [.int 0]))) (.loc n) = some (.list (ds ++ [.int 0])) := by
    unfold rd
    simp only [hn2]
  rw [env0, b__law_draw]
  refine (seq_nx (exp_ok hap)).trans ?_
  exact seq_ret (ret_ok (callE_ok (evs3_ok rfl (blt1_ok rfl hrd hlen) rfl) hc h.1.symm hx))
theorem isPick {nm : Str} {G : List Fn} {L : List Int} {i : Nat} {c : Fn} (hc : G[i]? = some c) (h : IsDraw L c) : IsPick L ⟨nm, 3, runDef G 3 (b__law_pick i)⟩ := by
  refine ⟨rfl, fun n ds xs st hn hd hx => ?_⟩
  obtain ⟨x, hx0, hxm, hx2⟩ := h.2 n ds (xs.length : Nat) st hn hd (by omega)
  have hlt : x.toNat < xs.length := by omega
  refine ⟨x.toNat, hlt, (run_ret ?_).trans (fin_dat (List.length_set ..))⟩
  have env0 : startE 3 [.dat (script L), .loc n, .dat (.list xs)] = [some (.dat (script L)), some (.loc n), some (.dat (.list xs))] := rfl
  rw [env0, b__law_pick]
  have hlen : bltD .len [.list xs] = some (.int (xs.length : Nat)) := rfl
  exact seq_ret (ret_ok (ix_ok rfl (callE_ok (evs3_ok rfl rfl (blt1_ok rfl rfl hlen)) hc h.1.symm hx2) (at_pos hx0 rfl (List.getElem?_eq_getElem hlt))))
end PD

set_option Elab.async false
set_option linter.all false
set_option maxRecDepth 100000
set_option maxHeartbeats 2000000
/-! A suite in parts, and its parts run by the kernel. -/
namespace PD
open PySem
def takeB : Nat → IB → IB
  | 0, _ => .nil
  | _ + 1, .nil => .nil
  | n + 1, .cons s b => .cons s (takeB n b)
def dropB : Nat → IB → IB
  | 0, b => b
  | _ + 1, .nil => .nil
  | n + 1, .cons _ b => dropB n b
theorem ex_part {G : List Fn} : ∀ (n : Nat) (b : IB) (env env1 : Env) (st st1 : Store), exB G (takeB n b) env st = .nx env1 st1 → exB G b env st = exB G (dropB n b) env1 st1
  | 0, b, env, env1, st, st1, h => by
    rw [takeB, exB_nil] at h
    cases h
    rfl
  | n + 1, .nil, env, env1, st, st1, h => by
    rw [takeB, exB_nil] at h
    cases h
    rfl
  | n + 1, .cons s b, env, env1, st, st1, h => by
    rw [takeB, exB_cons] at h
    rw [exB_cons]
    cases hs : ex G s env st with
    | nx env2 st2 =>
      rw [hs] at h
      exact ex_part n b env2 env1 st2 st1 h
    | _ => rw [hs] at h; cases h
/-- the names after a part, but the first -/
def envT : F → Env
  | .nx env _ => env.tail
  | _ => []
def stT : F → Store
  | .nx _ st => st
  | _ => []
def isNx : F → Bool
  | .nx _ _ => true
  | _ => false
def isTrue : F → Bool
  | .ret (.dat (.bool true)) _ => true
  | _ => false
theorem ofTrue {f : F} (h : isTrue f = true) : ∃ st, f = .ret (.dat (.bool true)) st := by
  unfold isTrue at h
  split at h
  · exact ⟨_, rfl⟩
  · cases h
end PD

set_option Elab.async false
set_option linter.all false
set_option maxRecDepth 100000
set_option maxHeartbeats 2000000
/-! Places by their numbers; sets, lists of places; how they compare. -/
namespace PD
open PySem
mutual
/-- whole numbers in tuples and lists, at most d deep -/
def itr : Nat → PyData → Bool
  | _, .int _ => true
  | d + 1, .tuple xs => itrs d xs
  | d + 1, .list xs => itrs d xs
  | _, _ => false
def itrs : Nat → List PyData → Bool
  | _, [] => true
  | d, x :: xs => itr d x && itrs d xs
end
theorem itrs_of {d : Nat} : ∀ {xs : List PyData}, (∀ x ∈ xs, itr d x = true) → itrs d xs = true
  | [], _ => by rw [itrs]
  | x :: r, h => by
    rw [itrs, Bool.and_eq_true]
    exact ⟨h x List.mem_cons_self, itrs_of fun y hy => h y (List.mem_cons_of_mem _ hy)⟩
theorem itrs_mem {d : Nat} : ∀ {xs : List PyData}, itrs d xs = true → ∀ x ∈ xs, itr d x = true
  | [], _, x, hx => by simp at hx
  | y :: r, h, x, hx => by
    rw [itrs, Bool.and_eq_true] at h
    rcases List.mem_cons.mp hx with rfl | hx
    · exact h.1
    · exact itrs_mem h.2 x hx
mutual
theorem itr_shape : ∀ (d : Nat) (x : PyData), itr d x = true → PyData.canLay0 x = true ∧ x.depth ≤ d
  | d, .int _, _ => by simp [PyData.canLay0, PyData.depth]
  | d + 1, .tuple xs, h => by
    rw [itr] at h
    have := itrs_shape d xs h
    simp only [PyData.canLay0, PyData.depth]
    exact ⟨this.1, by omega⟩
  | d + 1, .list xs, h => by
    rw [itr] at h
    have := itrs_shape d xs h
    simp only [PyData.canLay0, PyData.depth]
    exact ⟨this.1, by omega⟩
  | 0, .tuple _, h => by simp [itr] at h
  | 0, .list _, h => by simp [itr] at h
  | _, .none, h => by simp [itr] at h
  | _, .bool _, h => by simp [itr] at h
  | _, .str _, h => by simp [itr] at h
  | _, .dict _, h => by simp [itr] at h
theorem itrs_shape : ∀ (d : Nat) (xs : List PyData), itrs d xs = true → PyData.canLayAll0 xs = true ∧ PyData.depthAll xs ≤ d
  | d, [], _ => by simp [PyData.canLayAll0, PyData.depthAll]
  | d, x :: r, h => by
    rw [itrs, Bool.and_eq_true] at h
    have h1 := itr_shape d x h.1
    have h2 := itrs_shape d r h.2
    simp only [PyData.canLayAll0, PyData.depthAll, Bool.and_eq_true]
    exact ⟨⟨h1.1, h2.1⟩, by omega⟩
end
mutual
theorem itr_eqv : ∀ (d e : Nat) (x y : PyData), itr d x = true → itr e y = true → PyData.eqv x y = same x y
  | d, e, .int a, .int b, _, _ => by
    simp only [PyData.eqv, same]
    exact Bool.eq_iff_iff.mpr (by simp)
  | d + 1, e + 1, .tuple xs, .tuple ys, h1, h2 => by
    rw [itr] at h1 h2
    simp only [PyData.eqv, same]
    exact itrs_eqv d e xs ys h1 h2
  | d + 1, e + 1, .list xs, .list ys, h1, h2 => by
    rw [itr] at h1 h2
    simp only [PyData.eqv, same]
    exact itrs_eqv d e xs ys h1 h2
  | _, _, .int _, .tuple _, _, _ => by simp only [PyData.eqv, same]
  | _, _, .int _, .list _, _, _ => by simp only [PyData.eqv, same]
  | _, _, .tuple _, .int _, _, _ => by simp only [PyData.eqv, same]
  | _, _, .list _, .int _, _, _ => by simp only [PyData.eqv, same]
  | _, _, .tuple _, .list _, _, _ => by simp only [PyData.eqv, same]
  | _, _, .list _, .tuple _, _, _ => by simp only [PyData.eqv, same]
  | 0, _, .tuple _, .tuple _, h, _ => by simp [itr] at h
  | 0, _, .list _, .list _, h, _ => by simp [itr] at h
  | _ + 1, 0, .tuple _, .tuple _, _, h => by simp [itr] at h
  | _ + 1, 0, .list _, .list _, _, h => by simp [itr] at h
  | _, _, .none, _, h, _ => by simp [itr] at h
  | _, _, .bool _, _, h, _ => by simp [itr] at h
  | _, _, .str _, _, h, _ => by simp [itr] at h
  | _, _, .dict _, _, h, _ => by simp [itr] at h
  | _, _, .int _, .none, _, h => by simp [itr] at h
  | _, _, .int _, .bool _, _, h => by simp [itr] at h
  | _, _, .int _, .str _, _, h => by simp [itr] at h
  | _, _, .int _, .dict _, _, h => by simp [itr] at h
  | _, _, .tuple _, .none, _, h => by simp [itr] at h
  | _, _, .tuple _, .bool _, _, h => by simp [itr] at h
  | _, _, .tuple _, .str _, _, h => by simp [itr] at h
  | _, _, .tuple _, .dict _, _, h => by simp [itr] at h
  | _, _, .list _, .none, _, h => by simp [itr] at h
  | _, _, .list _, .bool _, _, h => by simp [itr] at h
  | _, _, .list _, .str _, _, h => by simp [itr] at h
  | _, _, .list _, .dict _, _, h => by simp [itr] at h
theorem itrs_eqv : ∀ (d e : Nat) (xs ys : List PyData), itrs d xs = true → itrs e ys = true → PyData.eqvAll xs ys = sames xs ys
  | _, _, [], [], _, _ => by simp only [PyData.eqvAll, sames]
  | _, _, [], _ :: _, _, _ => by simp only [PyData.eqvAll, sames]
  | _, _, _ :: _, [], _, _ => by simp only [PyData.eqvAll, sames]
  | d, e, x :: xs, y :: ys, h1, h2 => by
    rw [itrs, Bool.and_eq_true] at h1 h2
    simp only [PyData.eqvAll, sames]
    rw [itr_eqv d e x y h1.1 h2.1, itrs_eqv d e xs ys h1.2 h2.2]
end
theorem itr_shaped {d : Nat} {x : PyData} (h : itr d x = true) (hd : d ≤ 64) : SeqAt.shaped x = true := by
  unfold SeqAt.shaped
  rw [Bool.and_eq_true, decide_eq_true_eq]
  exact ⟨(itr_shape d x h).1, Nat.le_trans (itr_shape d x h).2 hd⟩
theorem itr_eq {d e : Nat} {x y : PyData} (h1 : itr d x = true) (h2 : itr e y = true) (hd : d ≤ 64) (he : e ≤ 64) : cmpD .Eq x y = some (same x y) := by
  show (if shape2 x y then some (PyData.eqv x y) else none) = _
  rw [if_pos (by unfold shape2; rw [itr_shaped h1 hd, itr_shaped h2 he]; rfl), itr_eqv d e x y h1 h2]
theorem itr_ne {d e : Nat} {x y : PyData} (h1 : itr d x = true) (h2 : itr e y = true) (hd : d ≤ 64) (he : e ≤ 64) : cmpD .NotEq x y = some (!same x y) := by
  have := itr_eq h1 h2 hd he
  show (eqD x y).map (!·) = _
  rw [show eqD x y = some (same x y) from this]
  rfl
def hasS (ds : List PyData) (x : PyData) : Bool := ds.any fun y => same y x
theorem hasS_iff {ds : List PyData} {x : PyData} : hasS ds x = true ↔ x ∈ ds := by
  unfold hasS
  rw [List.any_eq_true]
  constructor
  · rintro ⟨y, hy, h⟩
    rw [← same_eq y x h]
    exact hy
  · exact fun h => ⟨x, h, same_refl x⟩
theorem hasEqv_is {d e : Nat} {ds : List PyData} {x : PyData} (h1 : itr d x = true) (h2 : itrs e ds = true) : hasEqv x ds = hasS ds x := by
  unfold hasEqv hasS
  have := itrs_mem h2
  induction ds with
  | nil => rfl
  | cons y r ih =>
    rw [List.any_cons, List.any_cons, itr_eqv e d y x (this y List.mem_cons_self) h1, ih]
    · rw [itrs, Bool.and_eq_true] at h2
      exact h2.2
    · exact fun z hz => this z (List.mem_cons_of_mem _ hz)
theorem itr_in {d e : Nat} {ds : List PyData} {x : PyData} (h1 : itr d x = true) (h2 : itrs e ds = true) (hd : d ≤ 64) (he : e ≤ 63) : cmpD .In x (.list ds) = some (hasS ds x) := by
  show (if shape2 x (.list ds) then some (hasEqv x ds) else none) = _
  have h3 : itr (e + 1) (.list ds) = true := by rw [itr]; exact h2
  rw [if_pos (by unfold shape2; rw [itr_shaped h1 hd, itr_shaped h3 (by omega)]; rfl), hasEqv_is h1 h2]
theorem itr_inT {d e : Nat} {ds : List PyData} {x : PyData} (h1 : itr d x = true) (h2 : itrs e ds = true) (hd : d ≤ 64) (he : e ≤ 63) : cmpD .In x (.tuple ds) = some (hasS ds x) := by
  show (if shape2 x (.tuple ds) then some (hasEqv x ds) else none) = _
  have h3 : itr (e + 1) (.tuple ds) = true := by rw [itr]; exact h2
  rw [if_pos (by unfold shape2; rw [itr_shaped h1 hd, itr_shaped h3 (by omega)]; rfl), hasEqv_is h1 h2]
/-! places by numbers -/
def dig : Nat → Nat → List Nat
  | 0, _ => []
  | n + 1, k => k / 3 ^ n % 3 :: dig n k
def pd (n k : Nat) : PyData := .tuple ((dig n k).map fun (a : Nat) => PyData.int a)
def pds (n : Nat) (ks : List Nat) : List PyData := ks.map (pd n)
def undig : List Nat → Nat
  | [] => 0
  | a :: r => a * 3 ^ r.length + undig r
theorem dig_len : ∀ (n k : Nat), (dig n k).length = n
  | 0, _ => rfl
  | n + 1, k => by rw [dig, List.length_cons, dig_len n k]
theorem undig_dig : ∀ (n k : Nat), undig (dig n k) = k % 3 ^ n
  | 0, k => by rw [dig, undig, Nat.pow_zero, Nat.mod_one]
  | n + 1, k => by
    rw [dig, undig, dig_len, undig_dig n k, Nat.pow_succ, Nat.mod_mul, Nat.mul_comm, Nat.add_comm]
theorem dig_inj {n j k : Nat} (hj : j < 3 ^ n) (hk : k < 3 ^ n) (h : dig n j = dig n k) : j = k := by
  have := congrArg undig h
  rw [undig_dig, undig_dig, Nat.mod_eq_of_lt hj, Nat.mod_eq_of_lt hk] at this
  exact this
theorem ints_inj : ∀ {xs ys : List Nat}, xs.map (fun (a : Nat) => PyData.int a) = ys.map (fun (a : Nat) => PyData.int a) → xs = ys
  | [], [], _ => rfl
  | [], _ :: _, h => by simp at h
  | _ :: _, [], h => by simp at h
  | x :: xs, y :: ys, h => by
    rw [List.map_cons, List.map_cons, List.cons.injEq, PyData.int.injEq] at h
    rw [ints_inj h.2, Int.ofNat.inj h.1]
theorem pd_inj {n j k : Nat} (hj : j < 3 ^ n) (hk : k < 3 ^ n) (h : pd n j = pd n k) : j = k := by
  unfold pd at h
  rw [PyData.tuple.injEq] at h
  exact dig_inj hj hk (ints_inj h)
theorem ints_itr (xs : List Nat) : itrs 0 (xs.map fun (a : Nat) => PyData.int a) = true := itrs_of fun x hx => by
  obtain ⟨a, _, rfl⟩ := List.mem_map.mp hx
  rw [itr]
theorem pd_itr (n k : Nat) : itr 1 (pd n k) = true := by
  unfold pd
  rw [itr]
  exact ints_itr _
theorem pds_itr (n : Nat) (ks : List Nat) : itrs 1 (pds n ks) = true := itrs_of fun x hx => by
  obtain ⟨a, _, rfl⟩ := List.mem_map.mp hx
  exact pd_itr n a
theorem pd_same {n j k : Nat} (hj : j < 3 ^ n) (hk : k < 3 ^ n) : same (pd n j) (pd n k) = decide (j = k) := by
  rw [Bool.eq_iff_iff, decide_eq_true_eq]
  exact ⟨fun h => pd_inj hj hk (same_eq _ _ h), fun h => by rw [h]; exact same_refl _⟩
theorem pd_hasS {n k : Nat} {ks : List Nat} (hk : k < 3 ^ n) (h : ∀ j ∈ ks, j < 3 ^ n) : hasS (pds n ks) (pd n k) = decide (k ∈ ks) := by
  rw [Bool.eq_iff_iff, decide_eq_true_eq, hasS_iff]
  unfold pds
  rw [List.mem_map]
  exact ⟨fun ⟨j, hj, e⟩ => pd_inj (h j hj) hk e ▸ hj, fun h => ⟨k, h, rfl⟩⟩
end PD

set_option Elab.async false
set_option linter.all false
set_option maxRecDepth 100000
set_option maxHeartbeats 2000000
/-! Loops and comprehensions as folds, maps and filters. -/
namespace PD
open PySem
section
variable {σ : Type} {G : List Fn} {env : Env} {st st1 : Store}
/-- a loop whose state is s, held as E s and S s -/
theorem forL_fold {α : Type} (g : Store → Bool) (f : PyData → Env → Store → F) (E : σ → Env) (S : σ → Store) (enc : α → PyData) (step : σ → α → σ) (I : σ → Prop) : ∀ (xs : List α) (s : σ), I s → (∀ s, I s → g (S s) = true) → (∀ s x, x ∈ xs → I s → I (step s x) ∧ f (enc x) (E s) (S s) = .nx (E (step s x)) (S (step s x))) →
    forL g f (xs.map enc) (E s) (S s) = .nx (E (xs.foldl step s)) (S (xs.foldl step s)) ∧ I (xs.foldl step s)
  | [], s, hi, hg, h => by
    rw [List.map_nil, forL, if_pos (hg s hi)]
    exact ⟨rfl, hi⟩
  | x :: r, s, hi, hg, h => by
    have h1 := h s x List.mem_cons_self hi
    rw [List.map_cons, forL, if_pos (hg s hi), h1.2]
    exact forL_fold g f E S enc step I r (step s x) h1.1 hg fun s y hy hs => h s y (List.mem_cons_of_mem _ hy) hs
theorem compL_is {α : Type} {g : Store → Bool} {f : PyData → Store → R (Option PyData)} {enc : α → PyData} {out : α → Option PyData} {st : Store} (hg : g st = true) : ∀ (xs : List α) (acc : List PyData), acc.length + xs.length ≤ LIM → (∀ x ∈ xs, ∀ acc, f (enc x) (st ++ [.lst acc]) = .ok (out x) (st ++ [.lst acc])) →
    compL g f (xs.map enc) acc st = .ok (acc ++ xs.filterMap out) st
  | [], acc, hl, h => by
    rw [List.map_nil, compL, if_pos hg, List.filterMap_nil, List.append_nil]
  | x :: r, acc, hl, h => by
    rw [List.length_cons] at hl
    have h1 := h x List.mem_cons_self acc
    have l1 : (st ++ [Cell.lst acc]).length = st.length + 1 := by rw [List.length_append]; rfl
    have l2 : (st ++ [Cell.lst acc])[st.length]? = some (.lst acc) := by simp
    have l3 : (st ++ [Cell.lst acc]).take st.length = st := by simp
    rw [List.map_cons, compL, if_pos hg, h1]
    simp only
    rw [if_pos l1, l2]
    simp only
    rw [if_pos (by omega), l3]
    have ih := fun acc1 (ha : acc1.length ≤ acc.length + 1) => compL_is (f := f) (enc := enc) (out := out) hg r acc1 (by omega) fun y hy => h y (List.mem_cons_of_mem _ hy)
    cases ho : out x with
    | none =>
      rw [List.filterMap_cons, ho]
      exact ih acc (by omega)
    | some y =>
      rw [List.filterMap_cons, ho]
      simp only
      rw [ih (acc ++ [y]) (by rw [List.length_append]; exact Nat.le_refl _), List.append_assoc]
      rfl
/-- the element of a comprehension without a test -/
theorem comp_map {α : Type} {own : List Nat} {tg : Tg} {it : II} {e : IE} {xs : List α} {enc : α → PyData} {out : α → PyData} {src : Option (Nat × List PyData)} (h1 : evI G it env st = .ok ⟨xs.map enc, src⟩ st1) (hg : guardOk src st1 = true) (hl : xs.length ≤ LIM)
    (h : ∀ x ∈ xs, ∃ env2, bindT tg (wipeE env own) (enc x) = some env2 ∧ ∀ acc, ev G e env2 (st1 ++ [.lst acc]) = .ok (.dat (out x)) (st1 ++ [.lst acc])) : ev G (.comp own tg it .none e) env st = .ok (.dat (.list (xs.map out))) st1 := by
  rw [ev, h1, bind_ok, if_pos (by rw [List.length_map]; exact hl)]
  rw [compL_is (out := fun x => some (out x)) hg xs [] (by simpa using hl) ?_]
  · rw [bind_ok, List.nil_append, List.filterMap_eq_map']
  · intro x hx acc
    obtain ⟨env2, hb, he⟩ := h x hx
    unfold elemF
    rw [hb]
    simp only
    have e1 : evC G .none env2 (st1 ++ [.lst acc]) = .ok (.dat (.bool true)) (st1 ++ [.lst acc]) := rfl
    rw [e1, bind_ok]
    simp only
    rw [he acc]
    rfl
theorem filter_map_is {α β : Type} (p : α → Bool) (out : α → β) : ∀ xs : List α, xs.filterMap (fun x => if p x then some (out x) else none) = (xs.filter p).map out
  | [] => rfl
  | x :: r => by
    rw [List.filterMap_cons, List.filter_cons, filter_map_is p out r]
    cases p x <;> rfl
/-- and with one -/
theorem comp_filter {α : Type} {own : List Nat} {tg : Tg} {it : II} {c e : IE} {xs : List α} {enc : α → PyData} {out : α → PyData} {p : α → Bool} {src : Option (Nat × List PyData)} (h1 : evI G it env st = .ok ⟨xs.map enc, src⟩ st1) (hg : guardOk src st1 = true) (hl : xs.length ≤ LIM)
    (h : ∀ x ∈ xs, ∃ env2, bindT tg (wipeE env own) (enc x) = some env2 ∧ (∀ acc, ev G c env2 (st1 ++ [.lst acc]) = .ok (.dat (.bool (p x))) (st1 ++ [.lst acc])) ∧ (p x = true → ∀ acc, ev G e env2 (st1 ++ [.lst acc]) = .ok (.dat (out x)) (st1 ++ [.lst acc]))) : ev G (.comp own tg it (.some c) e) env st = .ok (.dat (.list ((xs.filter p).map out))) st1 := by
  rw [ev, h1, bind_ok, if_pos (by rw [List.length_map]; exact hl)]
  rw [compL_is (out := fun x => if p x then some (out x) else none) hg xs [] (by simpa using hl) ?_]
  · rw [bind_ok, List.nil_append]
    rw [filter_map_is]
  · intro x hx acc
    obtain ⟨env2, hb, hc, he⟩ := h x hx
    unfold elemF
    rw [hb]
    simp only
    have e1 : evC G (.some c) env2 (st1 ++ [.lst acc]) = .ok (.dat (.bool (p x))) (st1 ++ [.lst acc]) := hc acc
    rw [e1, bind_ok]
    cases hp : p x with
    | true =>
      simp only
      rw [he hp acc]
      rfl
    | false => rfl
/-- a loop with a relation that it keeps; k counts the rounds -/
theorem forL_rel {α : Type} {g : Store → Bool} {f : PyData → Env → Store → F} {enc : α → PyData} (I : Nat → σ → Env → Store → Prop) (step : σ → α → σ) (hg : ∀ k s env st, I k s env st → g st = true) : ∀ (xs : List α) (k : Nat) (s : σ) (env : Env) (st : Store), I k s env st → (∀ j s x env st, j < k + xs.length → x ∈ xs → I j s env st → ∃ env1 st1, f (enc x) env st = .nx env1 st1 ∧ I (j + 1) (step s x) env1 st1) →
    ∃ env1 st1, forL g f (xs.map enc) env st = .nx env1 st1 ∧ I (k + xs.length) (xs.foldl step s) env1 st1
  | [], k, s, env, st, hi, h => by
    refine ⟨env, st, ?_, hi⟩
    rw [List.map_nil, forL, if_pos (hg k s env st hi)]
  | x :: r, k, s, env, st, hi, h => by
    have hl : (x :: r).length = r.length + 1 := rfl
    obtain ⟨env1, st1, h1, h2⟩ := h k s x env st (by omega) List.mem_cons_self hi
    obtain ⟨env2, st2, h3, h4⟩ := forL_rel I step hg r (k + 1) (step s x) env1 st1 h2 fun j s y env st hj hy hs => h j s y env st (by omega) (List.mem_cons_of_mem _ hy) hs
    have e : k + 1 + r.length = k + (x :: r).length := by omega
    rw [e] at h4
    refine ⟨env2, st2, ?_, h4⟩
    rw [List.map_cons, forL, if_pos (hg k s env st hi), h1]
    exact h3
/-- a fold that sees what follows -/
def foldE {α : Type} (step : σ → α → List α → σ) : σ → List α → σ
  | s, [] => s
  | s, x :: r => foldE step (step s x r) r
/-- for at, one in enumerate(all), with all[at + 1:] within -/
theorem forL_enum {α : Type} {g : Store → Bool} {f : PyData → Env → Store → F} {enc : α → PyData} (I : Nat → σ → Env → Store → Prop) (step : σ → α → List α → σ) (hg : ∀ k s env st, I k s env st → g st = true) (all : List α) : ∀ (pre suf : List α) (s : σ) (env : Env) (st : Store), all = pre ++ suf → I pre.length s env st → (∀ s pre x r env st, all = pre ++ x :: r → I pre.length s env st → ∃ env1 st1, f (.tuple [.int (pre.length : Nat), enc x]) env st = .nx env1 st1 ∧ I (pre.length + 1) (step s x r) env1 st1) →
    ∃ env1 st1, forL g f (enumD pre.length (suf.map enc)) env st = .nx env1 st1 ∧ I all.length (foldE step s suf) env1 st1
  | pre, [], s, env, st, e, hi, h => by
    have e2 : all.length = pre.length := by rw [e, List.append_nil]
    refine ⟨env, st, ?_, by rw [e2]; exact hi⟩
    rw [List.map_nil, enumD, forL, if_pos (hg _ s env st hi)]
  | pre, x :: r, s, env, st, e, hi, h => by
    obtain ⟨env1, st1, h1, h2⟩ := h s pre x r env st e hi
    have e3 : (pre ++ [x]).length = pre.length + 1 := by rw [List.length_append]; rfl
    obtain ⟨env2, st2, h3, h4⟩ := forL_enum I step hg all (pre ++ [x]) r (step s x r) env1 st1 (by rw [e, List.append_assoc]; rfl) (by rw [e3]; exact h2) h
    refine ⟨env2, st2, ?_, h4⟩
    rw [List.map_cons, enumD, forL, if_pos (hg _ s env st hi), h1]
    rw [e3] at h3
    exact h3
/-- the same loop, left early -/
theorem forL_enum_ret {α : Type} {g : Store → Bool} {f : PyData → Env → Store → F} {enc : α → PyData} {v : EV} {stR : Store} (I : Env → Store → Prop) (hit : α → List α → Bool) (hg : ∀ env st, I env st → g st = true) (all : List α) : ∀ (pre suf : List α) (env : Env) (st : Store), all = pre ++ suf → I env st → (∀ pre x r env st, all = pre ++ x :: r → I env st → if hit x r then f (.tuple [.int (pre.length : Nat), enc x]) env st = .ret v stR else ∃ env1 st1, f (.tuple [.int (pre.length : Nat), enc x]) env st = .nx env1 st1 ∧ I env1 st1) →
    if foldE (fun b x r => b || hit x r) false suf then forL g f (enumD pre.length (suf.map enc)) env st = .ret v stR else ∃ env1 st1, forL g f (enumD pre.length (suf.map enc)) env st = .nx env1 st1 ∧ I env1 st1
  | pre, [], env, st, e, hi, h => by
    rw [foldE, if_neg Bool.false_ne_true]
    refine ⟨env, st, ?_, hi⟩
    rw [List.map_nil, enumD, forL, if_pos (hg env st hi)]
  | pre, x :: r, env, st, e, hi, h => by
    have h1 := h pre x r env st e hi
    have ft : ∀ l : List α, foldE (fun b x r => b || hit x r) true l = true := fun l => by
      induction l with
      | nil => rfl
      | cons y q ih => rw [foldE, Bool.true_or, ih]
    rw [foldE, Bool.false_or, List.map_cons, enumD, forL, if_pos (hg env st hi)]
    cases hh : hit x r with
    | true =>
      rw [hh, if_pos rfl] at h1
      rw [ft, if_pos rfl, h1]
      rfl
    | false =>
      rw [hh, if_neg Bool.false_ne_true] at h1
      obtain ⟨env1, st1, h2, h3⟩ := h1
      have ih := forL_enum_ret I hit hg all (pre ++ [x]) r env1 st1 (by rw [e, List.append_assoc]; rfl) h3 h
      rw [List.length_append] at ih
      rw [h2]
      exact ih
theorem cut_tail (ds : List PyData) (i : Nat) (h : i ≤ ds.length) : cutD ds (some (i : Nat)) none = ds.drop i := by
  unfold cutD
  have h1 : HT.sIx ds.length 0 (some (i : Nat)) = i := by
    rw [HT.sIx_nat]
    omega
  have h2 : HT.sIx ds.length ds.length none = ds.length := rfl
  rw [h1, h2, List.take_of_length_le (by rw [List.length_drop]; exact Nat.le_refl _)]
end
end PD

set_option Elab.async false
set_option linter.all false
set_option maxRecDepth 100000
set_option maxHeartbeats 2000000
/-! The defs of boards and sets as plain functions on places' numbers. -/
namespace PD
open PySem
/-! is_integer -/
def isInt : PyData → Int → Int → Bool
  | .int v, lo, hi => decide (lo ≤ v) && decide (v ≤ hi)
  | _, _, _ => false
def IsInteger (f : Fn) : Prop := f.ar = 3 ∧ ∀ (d : PyData) (lo hi : Int) (st : Store), f.den [.dat d, .dat (.int lo), .dat (.int hi)] st = .ok (.dat (.bool (isInt d lo hi))) st
theorem and_t {G : List Fn} {a b : IE} {env : Env} {st st1 : Store} (h : ev G a env st = .ok (.dat (.bool true)) st1) : ev G (.and a b) env st = ev G b env st1 := by
  rw [ev, h]
  rfl
theorem and_f {G : List Fn} {a b : IE} {env : Env} {st st1 : Store} (h : ev G a env st = .ok (.dat (.bool false)) st1) : ev G (.and a b) env st = .ok (.dat (.bool false)) st1 := by
  rw [ev, h]
  rfl
theorem or_t {G : List Fn} {a b : IE} {env : Env} {st st1 : Store} (h : ev G a env st = .ok (.dat (.bool true)) st1) : ev G (.or a b) env st = .ok (.dat (.bool true)) st1 := by
  rw [ev, h]
  rfl
theorem or_f {G : List Fn} {a b : IE} {env : Env} {st st1 : Store} (h : ev G a env st = .ok (.dat (.bool false)) st1) : ev G (.or a b) env st = ev G b env st1 := by
  rw [ev, h]
  rfl
theorem one_is {G : List Fn} {a : IE} {env : Env} {st : Store} : ev G (.one a) env st = ev G a env st := rfl
theorem and_ok {G : List Fn} {a b : IE} {env : Env} {st : Store} {p q : Bool} (h : ev G a env st = .ok (.dat (.bool p)) st) (h2 : p = true → ev G b env st = .ok (.dat (.bool q)) st) : ev G (.and a b) env st = .ok (.dat (.bool (p && q))) st := by
  cases p with
  | true => rw [and_t h, h2 rfl]; rfl
  | false => rw [and_f h]; rfl
theorem or_ok {G : List Fn} {a b : IE} {env : Env} {st : Store} {p q : Bool} (h : ev G a env st = .ok (.dat (.bool p)) st) (h2 : p = false → ev G b env st = .ok (.dat (.bool q)) st) : ev G (.or a b) env st = .ok (.dat (.bool (p || q))) st := by
  cases p with
  | true => rw [or_t h]; rfl
  | false => rw [or_f h, h2 rfl]; rfl
theorem not_ok {G : List Fn} {a : IE} {env : Env} {st st1 : Store} {p : Bool} (h : ev G a env st = .ok (.dat (.bool p)) st1) : ev G (.not a) env st = .ok (.dat (.bool (!p))) st1 := by
  rw [ev, h]
  rfl
theorem fin_none {st : Store} : fin st.length (.dat .none) st = .ok (.dat .none) st := fin_dat rfl
theorem run_nx {G : List Fn} {slots : Nat} {b : IB} {args : List EV} {env : Env} {st : Store} (h : exB G b (startE slots args) st = .nx env st) : runDef G slots b args st = .ok (.dat .none) st := by
  unfold runDef
  rw [h]
  exact fin_none
theorem run_exc {G : List Fn} {slots : Nat} {b : IB} {args : List EV} {c : Nat} {st : Store} (h : exB G b (startE slots args) st = .exc c st) : runDef G slots b args st = .exc c st := by
  unfold runDef
  rw [h]
  show R.exc c (st.take st.length) = _
  rw [List.take_length]
theorem run_dat {G : List Fn} {slots : Nat} {b : IB} {args : List EV} {d : PyData} {st : Store} (h : exB G b (startE slots args) st = .ret (.dat d) st) : runDef G slots b args st = .ok (.dat d) st := (run_ret h).trans (fin_dat rfl)
theorem run_own {G : List Fn} {slots : Nat} {b : IB} {args : List EV} {ds : List PyData} {st st2 : Store} (h : exB G b (startE slots args) st = .ret (.loc st.length) (st ++ .lst ds :: st2)) : runDef G slots b args st = .ok (.dat (.list ds)) st := by
  refine (run_ret h).trans ?_
  simp [fin]
theorem isInteger {nm : Str} (G : List Fn) : IsInteger ⟨nm, 3, runDef G 3 b_is_integer⟩ := by
  refine ⟨rfl, fun d lo hi st => run_dat ?_⟩
  have env0 : startE 3 [.dat d, .dat (.int lo), .dat (.int hi)] = [some (.dat d), some (.dat (.int lo)), some (.dat (.int hi))] := rfl
  rw [env0, b_is_integer]
  refine seq_ret (ret_ok ?_)
  cases d with
  | int v =>
    refine (and_t (st1 := st) rfl).trans ((and_t (st1 := st) rfl).trans ?_)
    rw [one_is, ev]
    have h1 : cmpV .LtE (.dat (.int lo)) (.dat (.int v)) st = .ok (.dat (.bool (decide (lo ≤ v)))) st := rfl
    have h2 : cmpV .LtE (.dat (.int v)) (.dat (.int hi)) st = .ok (.dat (.bool (decide (v ≤ hi)))) st := rfl
    have e0 : ev G (.var 0) [some (.dat (.int v)), some (.dat (.int lo)), some (.dat (.int hi))] st = .ok (.dat (.int v)) st := rfl
    have e1 : ev G (.var 1) [some (.dat (.int v)), some (.dat (.int lo)), some (.dat (.int hi))] st = .ok (.dat (.int lo)) st := rfl
    have e2 : ev G (.var 2) [some (.dat (.int v)), some (.dat (.int lo)), some (.dat (.int hi))] st = .ok (.dat (.int hi)) st := rfl
    rw [e1, bind_ok, e0, bind_ok, h1, bind_ok, isInt]
    cases decide (lo ≤ v) with
    | true =>
      show (ev G (.var 2) _ st).bind _ = _
      rw [e2, bind_ok, h2]
      rfl
    | false => rfl
  | bool v => rfl
  | none => rfl
  | str v => rfl
  | list v => rfl
  | tuple v => rfl
  | dict v => rfl
/-! check_size -/
def IsCheckSize (c : Nat) (f : Fn) : Prop := f.ar = 1 ∧ ∀ (d : PyData) (st : Store), f.den [.dat d] st = if isInt d 1 3 then .ok (.dat .none) st else .exc c st
theorem isCheckSize {nm : Str} {G : List Fn} {i c : Nat} {f : Fn} (hf : G[i]? = some f) (h : IsInteger f) : IsCheckSize c ⟨nm, 1, runDef G 1 (b_check_size i c)⟩ := by
  refine ⟨rfl, fun d st => ?_⟩
  have env0 : startE 1 [.dat d] = [some (.dat d)] := rfl
  have hc := callE_ok (st2 := st) (evs3_ok (env := [some (.dat d)]) (st := st) (a := .var 0) (b := .lit (.int 1)) (c := .lit (.int 3)) rfl rfl rfl) hf h.1.symm (h.2 d 1 3 st)
  cases hb : isInt d 1 3 with
  | true =>
    rw [hb] at hc
    rw [if_pos rfl]
    refine run_nx (env := [some (.dat d)]) ?_
    rw [env0, b_check_size]
    refine (seq_nx ((if_f (not_ok hc)).trans rfl)).trans rfl
  | false =>
    rw [hb] at hc
    rw [if_neg Bool.false_ne_true]
    refine run_exc ?_
    rw [env0, b_check_size, exB_cons, if_t (not_ok hc)]
    rfl
/-! fits -/
def fitsB (n : Int) : PyData → Bool
  | .tuple xs => decide ((xs.length : Int) = n) && xs.all fun x => isInt x 0 2
  | _ => false
def IsFits (f : Fn) : Prop := f.ar = 2 ∧ ∀ (n : Int) (d : PyData) (st : Store), (∀ xs, d = .tuple xs → xs.length ≤ 1000) → f.den [.dat (.int n), .dat d] st = .ok (.dat (.bool (fitsB n d))) st
theorem all_bools {α : Type} (p : α → Bool) (xs : List α) : bltD .all [.list (xs.map fun x => .bool (p x))] = some (.bool (xs.all p)) := by
  have h : boolsOf (xs.map fun x => PyData.bool (p x)) = some (xs.map p) := by
    induction xs with
    | nil => rfl
    | cons x r ih =>
      rw [List.map_cons, boolsOf, ih]
      rfl
  show allD (.list _) = _
  simp only [allD, h, List.all_map]
  rfl
theorem len_of {ds : List PyData} : bltD .len [.tuple ds] = some (.int (ds.length : Nat)) := rfl
theorem lenL_of {ds : List PyData} : bltD .len [.list ds] = some (.int (ds.length : Nat)) := rfl
theorem eq_int (i j : Int) : cmpD .Eq (.int i) (.int j) = some (decide (i = j)) := by
  rw [itr_eq (d := 0) (e := 0) (by rw [itr]) (by rw [itr]) (by decide) (by decide), same]
theorem ne_int (i j : Int) : cmpD .NotEq (.int i) (.int j) = some (!decide (i = j)) := by
  rw [itr_ne (d := 0) (e := 0) (by rw [itr]) (by rw [itr]) (by decide) (by decide), same]
theorem isFits {nm : Str} {G : List Fn} {i : Nat} {f : Fn} (hf : G[i]? = some f) (h : IsInteger f) : IsFits ⟨nm, 2, runDef G 3 (b_fits i)⟩ := by
  refine ⟨rfl, fun n d st hl => run_dat ?_⟩
  have env0 : startE 3 [.dat (.int n), .dat d] = [some (.dat (.int n)), some (.dat d), none] := rfl
  rw [env0, b_fits]
  refine seq_ret (ret_ok ?_)
  cases d with
  | tuple xs =>
    refine (and_t (st1 := st) rfl).trans ?_
    refine and_ok (cmp_ok (blt1_ok (v := .dat (.tuple xs)) rfl rfl len_of) rfl (eq_int _ _)) fun _ => ?_
    rw [one_is]
    refine blt1_ok (comp_map (enc := fun d => d) (xs := xs) (out := fun x => .bool (isInt x 0 2)) (src := none) ?_ rfl (Nat.le_trans (hl xs rfl) (by decide)) fun x _ => ⟨_, rfl, fun acc => ?_⟩) rfl (all_bools _ _)
    · rw [List.map_id']
      rfl
    · exact callE_ok (evs3_ok rfl rfl rfl) hf h.1.symm (h.2 x 0 2 _)
  | int v => rfl
  | bool v => rfl
  | none => rfl
  | str v => rfl
  | list v => rfl
  | dict v => rfl
theorem dig_small : ∀ n k, ∀ a ∈ dig n k, a < 3
  | 0, _, a, h => by simp [dig] at h
  | n + 1, k, a, h => by
    rw [dig] at h
    rcases List.mem_cons.mp h with rfl | h
    · exact Nat.mod_lt _ (by decide)
    · exact dig_small n k a h
theorem pd_fits (n k : Nat) : fitsB n (pd n k) = true := by
  unfold pd
  rw [fitsB, List.length_map, dig_len, decide_eq_true rfl, Bool.true_and, List.all_map, List.all_eq_true]
  intro a ha
  have := dig_small n k a ha
  simp [isInt]
  omega
/-! third_of -/
def thr : Nat → Nat → Nat → Nat
  | 0, _, _ => 0
  | n + 1, j, k => (6 - j / 3 ^ n % 3 - k / 3 ^ n % 3) % 3 * 3 ^ n + thr n j k
theorem thr_lt : ∀ n j k, thr n j k < 3 ^ n
  | 0, _, _ => by simp [thr]
  | n + 1, j, k => by
    have h := thr_lt n j k
    have h1 : (6 - j / 3 ^ n % 3 - k / 3 ^ n % 3) % 3 < 3 := Nat.mod_lt _ (by decide)
    rw [thr, Nat.pow_succ]
    generalize (6 - j / 3 ^ n % 3 - k / 3 ^ n % 3) % 3 = d at *
    have : d * 3 ^ n ≤ 2 * 3 ^ n := Nat.mul_le_mul_right _ (by omega)
    omega
theorem dig_add : ∀ (n m a r : Nat), n ≤ m → dig n (a * 3 ^ m + r) = dig n r
  | 0, _, _, _, _ => rfl
  | n + 1, m, a, r, h => by
    rw [dig, dig, dig_add n m a r (by omega)]
    congr 1
    obtain ⟨q, rfl⟩ : ∃ q, m = n + 1 + q := ⟨m - (n + 1), by omega⟩
    have e : a * 3 ^ (n + 1 + q) + r = r + 3 ^ n * (3 * (a * 3 ^ q)) := by
      rw [Nat.pow_add, Nat.pow_add, Nat.pow_one, Nat.add_comm]
      congr 1
      ac_rfl
    rw [e, Nat.add_mul_div_left _ _ (Nat.pow_pos (by decide)), Nat.add_mul_mod_self_left]
theorem dig_thr : ∀ n j k, dig n (thr n j k) = List.zipWith (fun a b => (6 - a - b) % 3) (dig n j) (dig n k)
  | 0, _, _ => rfl
  | n + 1, j, k => by
    rw [dig, thr, dig_add n n _ _ (Nat.le_refl n), dig_thr n j k, dig, dig, List.zipWith_cons_cons]
    congr 1
    have h := thr_lt n j k
    rw [Nat.mul_comm, Nat.mul_add_div (Nat.pow_pos (by decide)), Nat.div_eq_of_lt h, Nat.add_zero]
    omega
def IsThirdOf (f : Fn) : Prop := f.ar = 2 ∧ ∀ (n j k : Nat) (st : Store), n ≤ 1000 → f.den [.dat (pd n j), .dat (pd n k)] st = .ok (.dat (pd n (thr n j k))) st
theorem zip_ints : ∀ xs ys : List Nat, zipD (xs.map fun (a : Nat) => .int a) (ys.map fun (a : Nat) => .int a) = (xs.zip ys).map fun p => .tuple [.int (p.1 : Nat), .int (p.2 : Nat)]
  | [], _ => by simp [zipD]
  | _ :: _, [] => by simp [zipD]
  | x :: xs, y :: ys => by
    rw [List.map_cons, List.map_cons, zipD, zip_ints xs ys]
    rfl
theorem d_sub (i j : Int) : binop .Sub (.int i) (.int j) = some (.int (i - j)) := rfl
theorem isThirdOf {nm : Str} (G : List Fn) : IsThirdOf ⟨nm, 2, runDef G 4 b_third_of⟩ := by
  refine ⟨rfl, fun n j k st hn => run_dat ?_⟩
  have env0 : startE 4 [.dat (pd n j), .dat (pd n k)] = [some (.dat (pd n j)), some (.dat (pd n k)), none, none] := rfl
  rw [env0, b_third_of]
  refine seq_ret (ret_ok ?_)
  have h := comp_map (G := G) (own := [2, 3]) (tg := .two 2 3) (it := .zip (.var 0) (.var 1)) (env := [some (.dat (pd n j)), some (.dat (pd n k)), none, none]) (st := st) (st1 := st) (e := .bin .Mod (.bin .Sub (.bin .Sub (.lit (.int 0)) (.var 2)) (.var 3)) (.lit (.int 3)))
    (xs := (dig n j).zip (dig n k)) (enc := fun p => .tuple [.int (p.1 : Nat), .int (p.2 : Nat)]) (out := fun p => .int ((0 - p.1 - p.2 : Int) % 3)) (src := none) (by rw [← zip_ints]; rfl) rfl (by rw [List.length_zip, dig_len, dig_len, Nat.min_self]; exact Nat.le_trans hn (by decide))
    fun p _ => ⟨_, rfl, fun acc => bin_ok (bin_ok (bin_ok rfl rfl (d_sub _ _)) rfl (d_sub _ _)) rfl (d_md _ _ (by decide))⟩
  have e : ((dig n j).zip (dig n k)).map (fun p => PyData.int ((0 - p.1 - p.2 : Int) % 3)) = (dig n (thr n j k)).map fun (a : Nat) => PyData.int a := by
    rw [dig_thr, ← List.map_uncurry_zip_eq_zipWith, List.map_map]
    refine List.map_congr_left fun p hp => ?_
    have h1 := dig_small n j p.1 (List.of_mem_zip hp).1
    have h2 := dig_small n k p.2 (List.of_mem_zip hp).2
    show PyData.int _ = PyData.int _
    congr 1
    simp only [Function.uncurry]
    omega
  rw [e] at h
  exact blt1_ok h rfl rfl
end PD

set_option Elab.async false
set_option linter.all false
set_option maxRecDepth 100000
set_option maxHeartbeats 2000000
/-! Suites that go on, or return, with what then holds. -/
namespace PD
open PySem
def NxB (G : List Fn) (b : IB) (env : Env) (st : Store) (P : Env → Store → Prop) : Prop := ∃ e s, exB G b env st = .nx e s ∧ P e s
def NxS (G : List Fn) (x : IS) (env : Env) (st : Store) (P : Env → Store → Prop) : Prop := ∃ e s, ex G x env st = .nx e s ∧ P e s
def RtB (G : List Fn) (b : IB) (env : Env) (st : Store) (P : EV → Store → Prop) : Prop := ∃ v s, exB G b env st = .ret v s ∧ P v s
section
variable {σ : Type} {G : List Fn} {env : Env} {st st1 : Store} {P Q : Env → Store → Prop}
theorem NxB.nil (h : P env st) : NxB G .nil env st P := ⟨env, st, rfl, h⟩
theorem NxB.cons {x : IS} {b : IB} (h : NxS G x env st fun e s => NxB G b e s P) : NxB G (.cons x b) env st P := by
  obtain ⟨e, s, h1, e2, s2, h2, h3⟩ := h
  exact ⟨e2, s2, (seq_nx h1).trans h2, h3⟩
theorem RtB.cons {x : IS} {b : IB} {R : EV → Store → Prop} (h : NxS G x env st fun e s => RtB G b e s R) : RtB G (.cons x b) env st R := by
  obtain ⟨e, s, h1, e2, s2, h2, h3⟩ := h
  exact ⟨e2, s2, (seq_nx h1).trans h2, h3⟩
theorem NxS.mono {x : IS} (h : NxS G x env st P) (m : ∀ e s, P e s → Q e s) : NxS G x env st Q := by
  obtain ⟨e, s, h1, h2⟩ := h
  exact ⟨e, s, h1, m e s h2⟩
theorem NxB.mono {x : IB} (h : NxB G x env st P) (m : ∀ e s, P e s → Q e s) : NxB G x env st Q := by
  obtain ⟨e, s, h1, h2⟩ := h
  exact ⟨e, s, h1, m e s h2⟩
theorem NxS.set {i : Nat} {e : IE} {v : EV} (h : ev G e env st = .ok v st1) (p : P (env.set i (some v)) st1) : NxS G (.set i e) env st P := ⟨_, _, set_ok h, p⟩
theorem NxS.exp {e : IE} {v : EV} (h : ev G e env st = .ok v st1) (p : P env st1) : NxS G (.exp e) env st P := ⟨_, _, exp_ok h, p⟩
theorem NxS.ifT {t : IE} {a b : IB} (h : ev G t env st = .ok (.dat (.bool true)) st1) (p : NxB G a env st1 P) : NxS G (.ife t a b) env st P := by
  obtain ⟨e, s, h1, h2⟩ := p
  exact ⟨e, s, (if_t h).trans h1, h2⟩
theorem NxS.ifF {t : IE} {a b : IB} (h : ev G t env st = .ok (.dat (.bool false)) st1) (p : NxB G b env st1 P) : NxS G (.ife t a b) env st P := by
  obtain ⟨e, s, h1, h2⟩ := p
  exact ⟨e, s, (if_f h).trans h1, h2⟩
theorem RtB.ret {e : IE} {b : IB} {v : EV} {R : EV → Store → Prop} (h : ev G e env st = .ok v st1) (p : R v st1) : RtB G (.cons (.ret e) b) env st R := ⟨_, _, seq_ret (ret_ok h), p⟩
theorem RtB.ifT {t : IE} {a b c : IB} {R : EV → Store → Prop} (h : ev G t env st = .ok (.dat (.bool true)) st1) (p : RtB G a env st1 R) : RtB G (.cons (.ife t a b) c) env st R := by
  obtain ⟨v, s, h1, h2⟩ := p
  exact ⟨v, s, seq_ret ((if_t h).trans h1), h2⟩
theorem RtB.ifF {t : IE} {a b c : IB} {R : EV → Store → Prop} (h : ev G t env st = .ok (.dat (.bool false)) st1) (p : RtB G b env st1 R) : RtB G (.cons (.ife t a b) c) env st R := by
  obtain ⟨v, s, h1, h2⟩ := p
  exact ⟨v, s, seq_ret ((if_f h).trans h1), h2⟩
/-- a loop over items -/
theorem NxS.loop {α : Type} {tg : Tg} {it : II} {a : IB} {enc : α → PyData} {xs : List α} {src : Option (Nat × List PyData)} (I : Nat → σ → Env → Store → Prop) (step : σ → α → σ) (s0 : σ) (h1 : evI G it env st = .ok ⟨xs.map enc, src⟩ st1) (hg : ∀ k s env st, I k s env st → guardOk src st = true) (hi : I 0 s0 env st1)
    (h : ∀ k s x env st, k < xs.length → x ∈ xs → I k s env st → ∃ env2, bindT tg env (enc x) = some env2 ∧ NxB G a env2 st (I (k + 1) (step s x))) (p : ∀ e s, I xs.length (xs.foldl step s0) e s → P e s) : NxS G (.for_ tg it a) env st P := by
  obtain ⟨e, s, h2, h3⟩ := forL_rel (g := guardOk src) (f := fun d env1 st2 => match bindT tg env1 d with
    | some env2 => exB G a env2 st2
    | none => .err) (enc := enc) I step hg xs 0 s0 env st1 hi fun j s x env st hj hx hs => by
      obtain ⟨env2, hb, e1, s1, h4, h5⟩ := h j s x env st (by omega) hx hs
      refine ⟨e1, s1, ?_, h5⟩
      simp only [hb]
      exact h4
  rw [Nat.zero_add] at h3
  refine ⟨e, s, ?_, p e s h3⟩
  rw [ex_for, h1]
  exact h2
/-- a loop over enumerate -/
theorem NxS.enum {α : Type} {tg : Tg} {it : II} {a : IB} {enc : α → PyData} {all : List α} {src : Option (Nat × List PyData)} (I : Nat → σ → Env → Store → Prop) (step : σ → α → List α → σ) (s0 : σ) (h1 : evI G it env st = .ok ⟨enumD 0 (all.map enc), src⟩ st1) (hg : ∀ k s env st, I k s env st → guardOk src st = true) (hi : I 0 s0 env st1)
    (h : ∀ s pre x r env st, all = pre ++ x :: r → I pre.length s env st → ∃ env2, bindT tg env (.tuple [.int (pre.length : Nat), enc x]) = some env2 ∧ NxB G a env2 st (I (pre.length + 1) (step s x r))) (p : ∀ e s, I all.length (foldE step s0 all) e s → P e s) : NxS G (.for_ tg it a) env st P := by
  obtain ⟨e, s, h2, h3⟩ := forL_enum (g := guardOk src) (f := fun d env1 st2 => match bindT tg env1 d with
    | some env2 => exB G a env2 st2
    | none => .err) (enc := enc) I step hg all [] all s0 env st1 rfl hi fun s pre x r env st e hs => by
      obtain ⟨env2, hb, e1, s1, h4, h5⟩ := h s pre x r env st e hs
      refine ⟨e1, s1, ?_, h5⟩
      simp only [hb]
      exact h4
  refine ⟨e, s, ?_, p e s h3⟩
  rw [ex_for, h1]
  exact h2
end
theorem run_rt {G : List Fn} {slots : Nat} {b : IB} {args : List EV} {st : Store} {d : PyData} (h : RtB G b (startE slots args) st fun v s => fin st.length v s = .ok (.dat d) st) : runDef G slots b args st = .ok (.dat d) st := by
  obtain ⟨v, s, h1, h2⟩ := h
  exact (run_ret h1).trans h2
theorem fin_own {ds : List PyData} {st st2 : Store} : fin st.length (.loc st.length) (st ++ .lst ds :: st2) = .ok (.dat (.list ds)) st := by simp [fin]
theorem fin_data {d : PyData} {st st2 : Store} : fin st.length (.dat d) (st ++ st2) = .ok (.dat d) st := by simp [fin]
end PD

set_option Elab.async false
set_option linter.all false
set_option maxRecDepth 100000
set_option maxHeartbeats 2000000
namespace PD
open PySem
/-! order of places -/
theorem ints_alike : ∀ xs ys : List Nat, W.alikeAll (xs.map fun (a : Nat) => PyData.int a) (ys.map fun (a : Nat) => PyData.int a) = true
  | [], ys => by rw [List.map_nil, W.alikeAll]
  | _ :: _, [] => by rw [List.map_nil, List.map_cons, W.alikeAll]
  | x :: xs, y :: ys => by
    rw [List.map_cons, List.map_cons, W.alikeAll, ints_alike xs ys, W.alike]
    rfl
theorem undig_lt : ∀ xs : List Nat, (∀ a ∈ xs, a < 3) → undig xs < 3 ^ xs.length
  | [], _ => by simp [undig]
  | x :: r, h => by
    have h1 := undig_lt r fun a ha => h a (List.mem_cons_of_mem _ ha)
    have h2 := h x List.mem_cons_self
    rw [undig, List.length_cons, Nat.pow_succ]
    have : x * 3 ^ r.length ≤ 2 * 3 ^ r.length := Nat.mul_le_mul_right _ (by omega)
    omega
theorem ints_lt : ∀ xs ys : List Nat, xs.length = ys.length → (∀ a ∈ xs, a < 3) → (∀ a ∈ ys, a < 3) → W.dataLt (.tuple (xs.map fun (a : Nat) => .int a)) (.tuple (ys.map fun (a : Nat) => .int a)) = decide (undig xs < undig ys)
  | [], [], _, _, _ => by decide +kernel
  | [], _ :: _, h, _, _ => by simp at h
  | _ :: _, [], h, _, _ => by simp at h
  | x :: xs, y :: ys, h, hx, hy => by
    have h1 := ints_lt xs ys (by simpa using h) (fun a ha => hx a (List.mem_cons_of_mem _ ha)) fun a ha => hy a (List.mem_cons_of_mem _ ha)
    have l1 := undig_lt xs fun a ha => hx a (List.mem_cons_of_mem _ ha)
    have l2 := undig_lt ys fun a ha => hy a (List.mem_cons_of_mem _ ha)
    have hl : xs.length = ys.length := by simpa using h
    have ha : W.alike (.int (x : Nat)) (.int (y : Nat)) = true := by rw [W.alike]
    rw [hl] at l1
    rw [W.dataLt_tuple] at h1 ⊢
    rw [List.map_cons, List.map_cons]
    by_cases e : x = y
    · subst e
      rw [W.dataLt_all_yes ha (by simp [PyData.eqv]), h1, undig, undig, hl]
      exact decide_eq_decide.mpr (by omega)
    · rw [W.dataLt_all_no ha (by simp only [PyData.eqv]; exact beq_eq_false_iff_ne.mpr (by omega)), W.dataLt_int, undig, undig, hl]
      refine decide_eq_decide.mpr ?_
      generalize 3 ^ ys.length = m at *
      have h3 : ∀ a b : Nat, a < b → a * m + m ≤ b * m := fun a b hab => by
        have := Nat.mul_le_mul_right m (show a + 1 ≤ b from hab)
        rw [Nat.add_mul, Nat.one_mul] at this
        exact this
      constructor
      · intro hlt
        have := h3 x y (by omega)
        omega
      · intro hlt
        rcases Nat.lt_or_ge x y with h4 | h4
        · omega
        · have := h3 y x (by omega)
          omega
theorem pd_dataLt {n j k : Nat} (hj : j < 3 ^ n) (hk : k < 3 ^ n) : W.dataLt (pd n j) (pd n k) = decide (j < k) := by
  unfold pd
  rw [ints_lt _ _ (by rw [dig_len, dig_len]) (dig_small n j) (dig_small n k), undig_dig, undig_dig, Nat.mod_eq_of_lt hj, Nat.mod_eq_of_lt hk]
theorem pd_lt {n j k : Nat} (hj : j < 3 ^ n) (hk : k < 3 ^ n) : cmpD .Lt (pd n j) (pd n k) = some (decide (j < k)) := by
  have h := pd_dataLt hj hk
  have s1 : shape2 (pd n j) (pd n k) = true := by
    unfold shape2
    rw [itr_shaped (pd_itr n j) (by decide), itr_shaped (pd_itr n k) (by decide)]
    rfl
  have s2 : W.alike (pd n j) (pd n k) = true := by
    unfold pd
    rw [W.alike]
    exact ints_alike _ _
  unfold pd at *
  show (if W.alike _ _ && shape2 _ _ then some (W.dataLt _ _) else none) = _
  rw [s1, s2, h]
  rfl
/-! line_list -/
def tri (n : Nat) (t : Nat × Nat × Nat) : PyData := .tuple [pd n t.1, pd n t.2.1, pd n t.2.2]
def lstIn (n : Nat) (all : List Nat) (x : Nat) (acc : List (Nat × Nat × Nat)) (y : Nat) : List (Nat × Nat × Nat) := if Nat.blt y (thr n x y) && all.contains (thr n x y) then acc ++ [(x, y, thr n x y)] else acc
def lstOut (n : Nat) (all : List Nat) (acc : List (Nat × Nat × Nat)) (x : Nat) (r : List Nat) : List (Nat × Nat × Nat) := r.foldl (lstIn n all x) acc
def linesL (n : Nat) (ks : List Nat) : List (Nat × Nat × Nat) := foldE (lstOut n ks) [] ks
theorem has_dec (ks : List Nat) (k : Nat) : ks.contains k = decide (k ∈ ks) := by
  rw [Bool.eq_iff_iff]
  simp
theorem blt_dec (j k : Nat) : Nat.blt j k = decide (j < k) := by
  rw [Bool.eq_iff_iff, decide_eq_true_eq]
  rw [Nat.blt_eq]
def IsLineList (f : Fn) : Prop := f.ar = 1 ∧ ∀ (n : Nat) (ks : List Nat) (d : PyData) (st : Store), n ≤ 1000 → (∀ k ∈ ks, k < 3 ^ n) → ks.length ≤ 900 → (d = .tuple (pds n ks) ∨ d = .list (pds n ks)) → f.den [.dat d] st = .ok (.dat (.list ((linesL n ks).map (tri n)))) st
theorem slc_from {G : List Fn} {a lo : IE} {env : Env} {st : Store} {d : PyData} {i : Int} {ds : List PyData} {r : PyData} (h1 : ev G a env st = .ok (.dat d) st) (h2 : ev G lo env st = .ok (.dat (.int i)) st) (h : slcD d (some i) none = some r) : ev G (.slc a (.some lo) .none) env st = .ok (.dat r) st := by
  rw [ev, h1, bind_ok, evo, h2, bind_ok]
  show ofO st (slcD d (some i) none) = _
  rw [h]
  rfl
theorem app_ok {G : List Fn} {o e : IE} {env : Env} {st st1 : Store} {n : Nat} {ds : List PyData} {d : PyData} (h1 : ev G o env st = .ok (.loc n) st) (h2 : ev G e env st = .ok (.dat d) st) (h3 : st[n]? = some (.lst ds)) (hl : ds.length < LIM) : ev G (.mth .append o (.cons e .nil)) env st = .ok (.dat .none) (st.set n (.lst (ds ++ [d]))) := by
  have e2 : mthOk .append (.loc n) st = true := by simp [mthOk, isLst, h3]
  rw [ev_mth, h1, bind_ok, if_pos e2, evs1_ok h2, bind_ok]
  show appD st (.loc n) [.dat d] = _
  unfold appD
  simp only [h3]
  rw [if_pos hl]
theorem last_set (st : Store) (c d : Cell) : (st ++ [c]).set st.length d = st ++ [d] := by
  rw [List.set_append_right _ _ (Nat.le_refl _), Nat.sub_self]
  rfl
theorem last_get (st : Store) (c : Cell) : (st ++ [c])[st.length]? = some c := by simp
theorem tup3 {G : List Fn} {a b c : IE} {env : Env} {st : Store} {x y z : PyData} (h1 : ev G a env st = .ok (.dat x) st) (h2 : ev G b env st = .ok (.dat y) st) (h3 : ev G c env st = .ok (.dat z) st) : ev G (.tup (.cons a (.cons b (.cons c .nil)))) env st = .ok (.dat (.tuple [x, y, z])) st := by
  rw [ev_tup, evs3_ok h1 h2 h3]
  rfl
theorem tail_of {n : Nat} {ks pre r : List Nat} {x : Nat} {d : PyData} (e : ks = pre ++ x :: r) (hd : d = .tuple (pds n ks) ∨ d = .list (pds n ks)) : ∃ t, slcD d (some ((pre.length : Int) + 1)) none = some t ∧ itemsOf [] (.dat t) = some ⟨r.map (pd n), none⟩ ∧ (t = .tuple (pds n r) ∨ t = .list (pds n r)) := by
  have h1 : cutD (pds n ks) (some ((pre.length : Int) + 1)) none = pds n r := by
    have := cut_tail (pds n ks) (pre.length + 1) (by unfold pds; rw [List.length_map, e, List.length_append, List.length_cons]; omega)
    rw [Int.natCast_add] at this
    refine this.trans ?_
    unfold pds
    rw [e, List.map_append, List.map_cons]
    have : pre.length = (pre.map (pd n)).length := by rw [List.length_map]
    rw [this, List.drop_append]
    simp
  rcases hd with rfl | rfl
  · exact ⟨.tuple (pds n r), by show some (PyData.tuple _) = _; rw [h1], rfl, .inl rfl⟩
  · exact ⟨.list (pds n r), by show some (PyData.list _) = _; rw [h1], rfl, .inr rfl⟩
theorem isLineList {nm : Str} {G : List Fn} {i : Nat} {f : Fn} (hf : G[i]? = some f) (h : IsThirdOf f) : IsLineList ⟨nm, 1, runDef G 6 (b_line_list i)⟩ := by
  refine ⟨rfl, fun n ks d st hn hk hl hd => run_rt ?_⟩
  have env0 : startE 6 [.dat d] = [some (.dat d), none, none, none, none, none] := rfl
  rw [env0, b_line_list]
  refine RtB.cons (NxS.set (v := .loc st.length) (st1 := st ++ [.lst []]) rfl ?_)
  refine RtB.cons (NxS.enum (enc := pd n) (all := ks) (src := none) (fun k acc env s => acc.length ≤ k * 1000 ∧ s = st ++ [.lst (acc.map (tri n))] ∧ ∃ o2 o3 o4 o5, env = [some (.dat d), some (.loc st.length), o2, o3, o4, o5]) (lstOut n ks) [] (st1 := st ++ [.lst []]) ?_ (fun _ _ _ _ _ => rfl) ⟨by simp, rfl, _, _, _, _, rfl⟩ ?_ ?_)
  · rcases hd with rfl | rfl <;> rfl
  · rintro acc pre x r env s e ⟨ha, rfl, o2, o3, o4, o5, rfl⟩
    refine ⟨_, rfl, ?_⟩
    obtain ⟨t, ht1, ht2, ht3⟩ := tail_of e hd
    have hx : x ∈ ks := by rw [e]; simp
    have hr : ∀ y ∈ r, y ∈ ks := fun y hy => by rw [e]; simp [hy]
    have hkl : ks.length = pre.length + (r.length + 1) := by rw [e, List.length_append, List.length_cons]
    refine NxB.cons (NxS.loop (enc := pd n) (xs := r) (src := none) (fun k acc1 env s => acc1.length ≤ pre.length * 1000 + k ∧ s = st ++ [.lst (acc1.map (tri n))] ∧ ∃ o4 o5, env = [some (.dat d), some (.loc st.length), some (.dat (.int (pre.length : Nat))), some (.dat (pd n x)), o4, o5]) (lstIn n ks x) acc (st1 := st ++ [.lst (acc.map (tri n))]) ?_ (fun _ _ _ _ _ => rfl) ⟨by omega, rfl, _, _, rfl⟩ ?_ ?_)
    · rw [evI, slc_from (ds := []) rfl (bin_ok rfl rfl (d_ad _ _)) ht1, bind_ok]
      rcases ht3 with rfl | rfl <;> rfl
    · rintro k acc1 y env s hk1 hy ⟨ha1, rfl, o4, o5, rfl⟩
      refine ⟨_, rfl, ?_⟩
      have hz := thr_lt n x y
      refine NxB.cons (NxS.set (callE_ok (evs2_ok rfl rfl) hf h.1.symm (h.2 n x y _ hn)) ?_)
      have hin : cmpD .In (pd n (thr n x y)) d = some (decide (thr n x y ∈ ks)) := by
        rcases hd with rfl | rfl
        · rw [itr_inT (pd_itr n _) (pds_itr n ks) (by decide) (by decide), pd_hasS hz hk]
        · rw [itr_in (pd_itr n _) (pds_itr n ks) (by decide) (by decide), pd_hasS hz hk]
      have t1 := and_ok (G := G) (a := .cmp .Lt (.var 4) (.var 5)) (b := .one (.cmp .In (.var 5) (.var 0))) (env := [some (.dat d), some (.loc st.length), some (.dat (.int (pre.length : Nat))), some (.dat (pd n x)), some (.dat (pd n y)), some (.dat (pd n (thr n x y)))]) (st := st ++ [.lst (acc1.map (tri n))]) (cmp_ok rfl rfl (pd_lt (hk y (hr y hy)) hz)) fun _ => cmp_ok rfl rfl hin
      cases hb : (decide (y < thr n x y) && decide (thr n x y ∈ ks)) with
      | true =>
        rw [hb] at t1
        have a1 := app_ok (G := G) (o := .var 1) (e := .tup (.cons (.var 3) (.cons (.var 4) (.cons (.var 5) .nil)))) (env := [some (.dat d), some (.loc st.length), some (.dat (.int (pre.length : Nat))), some (.dat (pd n x)), some (.dat (pd n y)), some (.dat (pd n (thr n x y)))]) (st := st ++ [.lst (acc1.map (tri n))]) (st1 := st) rfl (tup3 rfl rfl rfl) (last_get st _) (by rw [List.length_map]; unfold LIM; omega)
        rw [last_set] at a1
        have e1 : lstIn n ks x acc1 y = acc1 ++ [(x, y, thr n x y)] := by
          unfold lstIn
          rw [blt_dec, has_dec, hb, if_pos rfl]
        refine NxB.cons (NxS.ifT t1 (NxB.cons (NxS.exp a1 (NxB.nil (NxB.nil ⟨?_, ?_, _, _, rfl⟩)))))
        · rw [e1, List.length_append, List.length_singleton]
          omega
        · rw [e1, List.map_append]
          rfl
      | false =>
        rw [hb] at t1
        have e1 : lstIn n ks x acc1 y = acc1 := by
          unfold lstIn
          rw [blt_dec, has_dec, hb, if_neg Bool.false_ne_true]
        refine NxB.cons (NxS.ifF t1 (NxB.nil (NxB.nil ?_)))
        rw [e1]
        exact ⟨by omega, rfl, _, _, rfl⟩
    · rintro e s ⟨h2, h3, o4', o5', h4⟩
      exact NxB.nil ⟨by
        have : (r.foldl (lstIn n ks x) acc).length ≤ pre.length * 1000 + r.length := h2
        show (r.foldl (lstIn n ks x) acc).length ≤ _
        omega, h3, _, _, _, _, h4⟩
  · rintro e s ⟨_, rfl, o2, o3, o4, o5, rfl⟩
    exact RtB.ret rfl fin_own
end PD

set_option Elab.async false
set_option linter.all false
set_option maxRecDepth 100000
set_option maxHeartbeats 2000000
namespace PD
open PySem
/-! all_places -/
theorem dig_snoc : ∀ (k j v : Nat), v < 3 → dig (k + 1) (3 * j + v) = dig k j ++ [v]
  | 0, j, v, h => by
    show [(3 * j + v) / 3 ^ 0 % 3] = [v]
    rw [Nat.pow_zero, Nat.div_one]
    congr 1
    omega
  | k + 1, j, v, h => by
    rw [dig, dig_snoc k j v h, dig, List.cons_append]
    congr 1
    rw [Nat.pow_succ, Nat.mul_comm (3 ^ k) 3, ← Nat.div_div_eq_div_mul]
    congr 2
    omega
theorem pd_snoc (k j v : Nat) (h : v < 3) : PyData.tuple (((dig k j).map fun (a : Nat) => PyData.int a) ++ [PyData.int (v : Nat)]) = pd (k + 1) (3 * j + v) := by
  unfold pd
  rw [dig_snoc k j v h, List.map_append]
  rfl
def grow3 (acc : List Nat) (j : Nat) : List Nat := acc ++ [3 * j, 3 * j + 1, 3 * j + 2]
theorem grow3_range : ∀ m, (List.range m).foldl grow3 [] = List.range (3 * m)
  | 0 => rfl
  | m + 1 => by
    rw [List.range_succ, List.foldl_append, grow3_range m]
    show List.range (3 * m) ++ [3 * m, 3 * m + 1, 3 * m + 2] = _
    rw [show 3 * (m + 1) = 3 * m + 1 + 1 + 1 by omega, List.range_succ, List.range_succ, List.range_succ]
    simp
theorem grow3_len (acc : List Nat) (j : Nat) : (grow3 acc j).length = acc.length + 3 := by
  unfold grow3
  rw [List.length_append]
  rfl
def IsAllPlaces (f : Fn) : Prop := f.ar = 1 ∧ ∀ (n : Nat) (st : Store), n ≤ 3 → f.den [.dat (.int (n : Nat))] st = .ok (.dat (.list (pds n (List.range (3 ^ n))))) st
theorem ext_ok {G : List Fn} {o e : IE} {env : Env} {st : Store} {n : Nat} {ds es : List PyData} (h1 : ev G o env st = .ok (.loc n) st) (h2 : ev G e env st = .ok (.dat (.list es)) st) (h3 : st[n]? = some (.lst ds)) (hl : ds.length + es.length ≤ LIM) : ev G (.mth .extend o (.cons e .nil)) env st = .ok (.dat .none) (st.set n (.lst (ds ++ es))) := by
  have e2 : mthOk .extend (.loc n) st = true := by simp [mthOk, isLst, h3]
  rw [ev_mth, h1, bind_ok, if_pos e2, evs1_ok h2, bind_ok]
  show extD st (.loc n) [.dat (.list es)] = _
  unfold extD
  simp only [h3]
  rw [if_pos hl]
theorem range_ints : ∀ (n : Nat) (lo : Int), rangeD lo 1 n = (List.range n).map fun (j : Nat) => PyData.int (lo + j)
  | 0, _ => rfl
  | n + 1, lo => by
    rw [rangeD, range_ints n (lo + 1), List.range_succ_eq_map, List.map_cons, List.map_map]
    congr 1
    · simp
    · refine List.map_congr_left fun j _ => ?_
      show PyData.int _ = PyData.int _
      congr 1
      show lo + 1 + (j : Int) = lo + ((j + 1 : Nat) : Int)
      omega
theorem add_tup (xs ys : List PyData) (h : xs.length + ys.length ≤ LIM) : binop .Add (.tuple xs) (.tuple ys) = some (.tuple (xs ++ ys)) := by
  show (if decide _ then _ else _) = _
  rw [if_pos (decide_eq_true h)]
theorem guard_self {st : Store} {n : Nat} {ds : List PyData} (h : st[n]? = some (.lst ds)) : guardOk (some (n, ds)) st = true := by
  unfold guardOk
  simp only [h]
  exact sames_refl ds
/-- a value that reads as a list -/
def ReadsL (st : Store) (v : EV) (ds : List PyData) : Prop := v = .dat (.list ds) ∨ ∃ n, v = .loc n ∧ st[n]? = some (.lst ds)
theorem ReadsL.items {st : Store} {v : EV} {ds : List PyData} (h : ReadsL st v ds) : ∃ src, itemsOf st v = some ⟨ds, src⟩ ∧ (src = none ∨ ∃ n, v = .loc n ∧ n < st.length ∧ src = some (n, ds)) := by
  rcases h with rfl | ⟨n, rfl, h⟩
  · exact ⟨none, rfl, .inl rfl⟩
  · refine ⟨some (n, ds), ?_, .inr ⟨n, rfl, (List.getElem?_eq_some_iff.mp h).1, rfl⟩⟩
    simp only [itemsOf, h]
theorem isAllPlaces {nm : Str} (G : List Fn) : IsAllPlaces ⟨nm, 1, runDef G 6 b_all_places⟩ := by
  refine ⟨rfl, fun n st hn => run_rt ?_⟩
  have env0 : startE 6 [.dat (.int (n : Nat))] = [some (.dat (.int (n : Nat))), none, none, none, none, none] := rfl
  have p3 : ∀ k, k ≤ 3 → 3 ^ k ≤ 27 := fun k hk => Nat.le_trans (Nat.pow_le_pow_right (by decide) hk) (by decide)
  rw [env0, b_all_places]
  refine RtB.cons (NxS.set (v := .dat (.list [.tuple []])) (st1 := st) rfl ?_)
  refine RtB.cons (NxS.loop (σ := Unit) (α := Nat) (enc := fun (j : Nat) => PyData.int (0 + j)) (xs := List.range n) (src := none) (st1 := st)
    (fun k _ env s => ∃ cs v o2 o3 o4 o5, s = st ++ cs ∧ (∀ m, v = .loc m → st.length ≤ m) ∧ ReadsL s v (pds k (List.range (3 ^ k))) ∧ env = [some (.dat (.int (n : Nat))), some v, o2, o3, o4, o5]) (fun _ _ => ()) () ?_ (fun _ _ _ _ _ => rfl) ⟨[], .dat (.list [.tuple []]), none, none, none, none, (List.append_nil st).symm, fun m e => (by cases e), .inl rfl, rfl⟩ ?_ ?_)
  · rw [← range_ints]
    refine range1_ok (n := (n : Int)) rfl ?_
    unfold tiny
    rw [Bool.and_eq_true, decide_eq_true_eq, decide_eq_true_eq]
    omega
  · rintro k _ x env s hk _ ⟨cs, v, o2, o3, o4, o5, rfl, hv, hr, rfl⟩
    rw [List.length_range] at hk
    refine ⟨_, rfl, ?_⟩
    have hk3 : 3 ^ k ≤ 9 := Nat.le_trans (Nat.pow_le_pow_right (by decide) (show k ≤ 2 by omega)) (by decide)
    refine NxB.cons (NxS.set (v := .loc (st ++ cs).length) (st1 := (st ++ cs) ++ [.lst []]) rfl ?_)
    have hr1 : ReadsL ((st ++ cs) ++ [.lst []]) v (pds k (List.range (3 ^ k))) := by
      rcases hr with rfl | ⟨m, rfl, h⟩
      · exact .inl rfl
      · exact .inr ⟨m, rfl, by rw [List.getElem?_append_left (List.getElem?_eq_some_iff.mp h).1]; exact h⟩
    obtain ⟨src, hi, hs⟩ := hr1.items
    have hs2 : ∀ acc, guardOk src ((st ++ cs) ++ [.lst acc]) = true := fun acc => by
      rcases hs with rfl | ⟨m, rfl, hm, rfl⟩
      · rfl
      · rcases hr with hr | ⟨m', hm', h⟩
        · cases hr
        · cases hm'
          exact guard_self (by rw [List.getElem?_append_left (List.getElem?_eq_some_iff.mp h).1]; exact h)
    refine NxB.cons (NxS.loop (enc := pd k) (xs := List.range (3 ^ k)) (src := src) (st1 := (st ++ cs) ++ [.lst []]) (fun c acc env s => acc.length = 3 * c ∧ s = (st ++ cs) ++ [.lst (pds (k + 1) acc)] ∧ ∃ o4 o5, env = [some (.dat (.int (n : Nat))), some v, some (.dat (.int (0 + x))), some (.loc (st ++ cs).length), o4, o5]) grow3 [] ?_ ?_ ⟨rfl, rfl, _, _, rfl⟩ ?_ ?_)
    · have ev1 : ev G (.var 1) [some (.dat (.int (n : Nat))), some v, some (.dat (.int (0 + x))), some (.loc (st ++ cs).length), o4, o5] ((st ++ cs) ++ [.lst []]) = .ok v ((st ++ cs) ++ [.lst []]) := rfl
      refine Eq.trans (b := (R.ok v ((st ++ cs) ++ [.lst []])).bind fun x st1 => match itemsOf st1 x with
        | some its => .ok its st1
        | none => .err) rfl ?_
      rw [bind_ok, hi]
      rfl
    · rintro c acc env s ⟨_, rfl, _⟩
      exact hs2 _
    · rintro c acc j env s hc hj ⟨hl, rfl, o4, o5, rfl⟩
      rw [List.length_range] at hc
      refine ⟨_, rfl, ?_⟩
      have hcomp := comp_map (G := G) (own := [5]) (tg := .one 5) (it := .range1 (.lit (.int 3))) (env := [some (.dat (.int (n : Nat))), some v, some (.dat (.int (0 + x))), some (.loc (st ++ cs).length), some (.dat (pd k j)), o5]) (st := (st ++ cs) ++ [.lst (pds (k + 1) acc)]) (st1 := (st ++ cs) ++ [.lst (pds (k + 1) acc)]) (e := .bin .Add (.var 4) (.tup (.cons (.var 5) .nil)))
        (xs := [0, 1, 2]) (enc := fun (a : Nat) => .int a) (out := fun a => .tuple (((dig k j).map fun (a : Nat) => PyData.int a) ++ [PyData.int (a : Nat)])) (src := none) rfl rfl (by decide)
        fun a _ => ⟨_, rfl, fun acc => bin_ok rfl (by rw [ev_tup]; rfl) (add_tup _ _ (by rw [List.length_map, dig_len]; show k + 1 ≤ 1000000; omega))⟩
      have eo : ([0, 1, 2] : List Nat).map (fun a => PyData.tuple (((dig k j).map fun (a : Nat) => PyData.int a) ++ [PyData.int (a : Nat)])) = pds (k + 1) [3 * j, 3 * j + 1, 3 * j + 2] := by
        simp only [List.map_cons, List.map_nil, pds]
        rw [pd_snoc k j 0 (by decide), pd_snoc k j 1 (by decide), pd_snoc k j 2 (by decide)]
        rfl
      rw [eo] at hcomp
      have a1 := ext_ok (o := .var 3) (n := (st ++ cs).length) rfl hcomp (last_get (st ++ cs) _) (by unfold pds; rw [List.length_map, List.length_map]; show acc.length + 3 ≤ 1000000; omega)
      rw [last_set] at a1
      refine NxB.cons (NxS.exp a1 (NxB.nil ⟨?_, ?_, _, _, rfl⟩))
      · rw [grow3_len]
        omega
      · unfold grow3 pds
        rw [List.map_append]
    · rintro e s ⟨hl, rfl, o4', o5', rfl⟩
      refine NxB.cons (NxS.set (v := .loc (st ++ cs).length) rfl (NxB.nil ⟨cs ++ [.lst (pds (k + 1) ((List.range (3 ^ k)).foldl grow3 []))], .loc (st ++ cs).length, _, _, _, _, ?_, ?_, ?_, rfl⟩))
      · rw [List.append_assoc]
      · intro m e
        cases e
        rw [List.length_append]
        omega
      · refine .inr ⟨_, rfl, ?_⟩
        rw [grow3_range, Nat.pow_succ, Nat.mul_comm]
        exact last_get _ _
  · rintro e s ⟨cs, v, o2, o3, o4, o5, rfl, hv, hr, rfl⟩
    rw [List.length_range] at hr
    refine RtB.ret (v := v) (st1 := st ++ cs) rfl ?_
    rcases hr with rfl | ⟨m, rfl, h⟩
    · exact fin_data
    · have := hv m rfl
      unfold fin
      simp only [h]
      rw [if_neg (by omega)]
      simp
end PD

set_option Elab.async false
set_option linter.all false
set_option maxRecDepth 100000
set_option maxHeartbeats 2000000
namespace PD
open PySem
def sd (n : Nat) (ks : List Nat) : PyData := .tuple (pds n ks)
def asc (ks : List Nat) : Bool := (ks.zip ks.tail).all fun p => Nat.blt p.1 p.2
/-- places of a board, not too many -/
def InB (n : Nat) (ks : List Nat) : Prop := (1 ≤ n ∧ n ≤ 3) ∧ (∀ k ∈ ks, k < 3 ^ n) ∧ ks.length ≤ 900
def SetOk (n : Nat) (ks : List Nat) : Prop := InB n ks ∧ asc ks = true
/-- no set of places, and not too great -/
def OddSet (n : Nat) : PyData → Prop
  | .tuple xs => (xs.all fun x => fitsB n x) = false ∧ xs.length ≤ 1000 ∧ ∀ x ∈ xs, ∀ ys, x = .tuple ys → ys.length ≤ 1000
  | _ => True
def NoSet (n : Nat) (d : PyData) : Prop := OddSet n d ∨ ∃ ks, d = sd n ks ∧ InB n ks ∧ asc ks = false
theorem sd_itr (n : Nat) (ks : List Nat) : itr 2 (sd n ks) = true := by
  unfold sd
  rw [itr]
  exact pds_itr n ks
theorem size_ok {n : Nat} (h : 1 ≤ n ∧ n ≤ 3) : isInt (.int (n : Nat)) 1 3 = true := by
  rw [isInt, Bool.and_eq_true, decide_eq_true_eq, decide_eq_true_eq]
  omega
/-! lies -/
def IsLies (f : Fn) : Prop := f.ar = 2 ∧ (∀ (n : Nat) (ks : List Nat) (st : Store), InB n ks → f.den [.dat (.int (n : Nat)), .dat (sd n ks)] st = .ok (.dat (.bool (asc ks))) st) ∧ ∀ (n : Nat) (d : PyData) (st : Store), OddSet n d → f.den [.dat (.int (n : Nat)), .dat d] st = .ok (.dat (.bool false)) st
theorem zip_pds (n : Nat) : ∀ ks js : List Nat, zipD (pds n ks) (pds n js) = (ks.zip js).map fun p => .tuple [pd n p.1, pd n p.2]
  | [], _ => by simp [zipD, pds]
  | _ :: _, [] => by simp [zipD, pds]
  | x :: xs, y :: ys => by
    have := zip_pds n xs ys
    unfold pds at *
    rw [List.map_cons, List.map_cons, zipD, this]
    rfl
theorem tail_pds (n : Nat) (ks : List Nat) : slcD (sd n ks) (some 1) none = some (sd n ks.tail) := by
  cases ks with
  | nil => rfl
  | cons k r =>
    show some (PyData.tuple (cutD (pds n (k :: r)) (some ((1 : Nat) : Int)) none)) = _
    rw [cut_tail _ 1 (by unfold pds; rw [List.length_map, List.length_cons]; omega)]
    rfl
theorem zip_ok {G : List Fn} {a b : IE} {env : Env} {st st1 st2 : Store} {xs ys : List PyData} (h1 : ev G a env st = .ok (.dat (.tuple xs)) st1) (h2 : ev G b env st1 = .ok (.dat (.tuple ys)) st2) : evI G (.zip a b) env st = .ok ⟨zipD xs ys, none⟩ st2 := by
  rw [evI, h1, bind_ok, h2]
  rfl
theorem isLies {nm : Str} {G : List Fn} {i : Nat} {f : Fn} (hf : G[i]? = some f) (h : IsFits f) : IsLies ⟨nm, 2, runDef G 5 (b_lies i)⟩ := by
  have env0 : ∀ (n : Nat) (d : PyData), startE 5 [.dat (.int (n : Nat)), .dat d] = [some (.dat (.int (n : Nat))), some (.dat d), none, none, none] := fun _ _ => rfl
  have one : ∀ (n : Nat) (xs : List PyData) (st : Store), xs.length ≤ 1000 → (∀ x ∈ xs, ∀ ys, x = .tuple ys → ys.length ≤ 1000) → ev G (.or (.not (.isT (.var 1) .tuple)) (.one (.not (.blt .all (.cons (.comp [4] (.one 4) (.seq (.var 1)) .none (.call i (.cons (.var 0) (.cons (.var 4) .nil)))) .nil))))) [some (.dat (.int (n : Nat))), some (.dat (.tuple xs)), none, none, none] st = .ok (.dat (.bool (!(xs.all fun x => fitsB n x)))) st := fun n xs st hl hx => by
    refine (or_f (st1 := st) rfl).trans ?_
    rw [one_is]
    refine not_ok (blt1_ok (comp_map (enc := fun d => d) (xs := xs) (out := fun x => .bool (fitsB n x)) (src := none) ?_ rfl (Nat.le_trans hl (by decide)) fun x hx1 => ⟨_, rfl, fun acc => ?_⟩) rfl (all_bools _ _))
    · rw [List.map_id']
      rfl
    · exact callE_ok (evs2_ok rfl rfl) hf h.1.symm (h.2 n x _ (hx x hx1))
  refine ⟨rfl, fun n ks st ⟨hn, hk, hl⟩ => run_rt ?_, fun n d st hd => run_rt ?_⟩
  · rw [env0, b_lies]
    have o1 := one n (pds n ks) st (by unfold pds; rw [List.length_map]; omega) fun x hx ys e => by
      obtain ⟨k, _, rfl⟩ := List.mem_map.mp hx
      unfold pd at e
      cases e
      rw [List.length_map, dig_len]
      omega
    have e1 : ((pds n ks).all fun x => fitsB n x) = true := by
      rw [List.all_eq_true]
      intro x hx
      obtain ⟨k, _, rfl⟩ := List.mem_map.mp hx
      exact pd_fits n k
    rw [e1] at o1
    refine RtB.cons (NxS.ifF o1 (NxB.nil ?_))
    have hcomp := comp_map (G := G) (own := [2, 3]) (tg := .two 2 3) (it := .zip (.var 1) (.slc (.var 1) (.some (.lit (.int 1))) .none)) (env := [some (.dat (.int (n : Nat))), some (.dat (sd n ks)), none, none, none]) (st := st) (st1 := st) (e := .cmp .Lt (.var 2) (.var 3))
      (xs := ks.zip ks.tail) (enc := fun p => .tuple [pd n p.1, pd n p.2]) (out := fun p => .bool (Nat.blt p.1 p.2)) (src := none) (by
        have es := slc_from (G := G) (a := .var 1) (lo := .lit (.int 1)) (env := [some (.dat (.int (n : Nat))), some (.dat (sd n ks)), none, none, none]) (st := st) (ds := []) rfl rfl (tail_pds n ks)
        rw [← zip_pds]
        exact zip_ok (a := .var 1) rfl es) rfl (by rw [List.length_zip]; exact Nat.le_trans (Nat.le_trans (Nat.min_le_left _ _) hl) (by decide))
      fun p hp => ⟨_, rfl, fun acc => cmp_ok rfl rfl (by rw [pd_lt (hk _ (List.of_mem_zip hp).1) (hk _ (List.mem_of_mem_tail (List.of_mem_zip hp).2)), blt_dec])⟩
    exact RtB.ret (blt1_ok hcomp rfl (all_bools _ _)) (fin_dat rfl)
  · rw [env0, b_lies]
    cases d with
    | tuple xs =>
      obtain ⟨h1, h2, h3⟩ := hd
      have o1 := one n xs st h2 h3
      rw [h1] at o1
      exact RtB.ifT o1 (RtB.ret rfl (fin_dat rfl))
    | int v => exact RtB.ifT (st1 := st) rfl (RtB.ret rfl (fin_dat rfl))
    | bool v => exact RtB.ifT (st1 := st) rfl (RtB.ret rfl (fin_dat rfl))
    | none => exact RtB.ifT (st1 := st) rfl (RtB.ret rfl (fin_dat rfl))
    | str v => exact RtB.ifT (st1 := st) rfl (RtB.ret rfl (fin_dat rfl))
    | list v => exact RtB.ifT (st1 := st) rfl (RtB.ret rfl (fin_dat rfl))
    | dict v => exact RtB.ifT (st1 := st) rfl (RtB.ret rfl (fin_dat rfl))
/-! what raises -/
def Bad (c0 c2 : Nat) (f : Fn) : Prop := (∀ (n : Nat) (d : PyData) (st : Store), 1 ≤ n ∧ n ≤ 3 → NoSet n d → f.den [.dat (.int (n : Nat)), .dat d] st = .exc c2 st) ∧ ∀ (d e : PyData) (st : Store), isInt d 1 3 = false → f.den [.dat d, .dat e] st = .exc c0 st
def resD (o : PyData ⊕ Nat) (st : Store) : R EV := match o with
  | .inl d => .ok (.dat d) st
  | .inr c => .exc c st
def Is2 (c0 c2 : Nat) (out : Nat → List Nat → PyData ⊕ Nat) (f : Fn) : Prop := f.ar = 2 ∧ (∀ (n : Nat) (ks : List Nat) (st : Store), SetOk n ks → f.den [.dat (.int (n : Nat)), .dat (sd n ks)] st = resD (out n ks) st) ∧ Bad c0 c2 f
theorem callE_exc {G : List Fn} {f : Nat} {es : IA} {env : Env} {st st1 st2 : Store} {vs : List EV} {e : Fn} {c : Nat} (h1 : evs G es env st = .ok vs st1) (hg : G[f]? = some e) (hl : vs.length = e.ar) (h : e.den vs st1 = .exc c st2) : ev G (.call f es) env st = .exc c st2 := by
  rw [ev_call, h1, bind_ok, callF_at hg hl, h]
theorem exp_exc {G : List Fn} {e : IE} {b : IB} {env : Env} {st st1 : Store} {c : Nat} (h : ev G e env st = .exc c st1) : exB G (.cons (.exp e) b) env st = .exc c st1 := by
  rw [exB_cons, ex_exp, h]
  rfl
theorem isCheckSet {nm : Str} {G : List Fn} {i j c0 c2 : Nat} {f g : Fn} (hf : G[i]? = some f) (h : IsCheckSize c0 f) (hg : G[j]? = some g) (k : IsLies g) : Is2 c0 c2 (fun _ _ => .inl .none) ⟨nm, 2, runDef G 2 (b_check_set i j c2)⟩ := by
  have env0 : ∀ (x y : PyData), startE 2 [.dat x, .dat y] = [some (.dat x), some (.dat y)] := fun _ _ => rfl
  have s1 : ∀ (x y : PyData) (st : Store), isInt x 1 3 = true → ev G (.call i (.cons (.var 0) .nil)) [some (.dat x), some (.dat y)] st = .ok (.dat .none) st := fun x y st hx => callE_ok (evs1_ok rfl) hf h.1.symm (by rw [h.2 x st, if_pos hx])
  refine ⟨rfl, fun n ks st hs => ?_, fun n d st hn hd => run_exc ?_, fun d e st hd => run_exc ?_⟩
  · refine run_nx (env := [some (.dat (.int (n : Nat))), some (.dat (sd n ks))]) ?_
    rw [env0, b_check_set]
    have t1 := not_ok (callE_ok (G := G) (evs2_ok (a := .var 0) (b := .var 1) (env := [some (.dat (.int (n : Nat))), some (.dat (sd n ks))]) (st := st) rfl rfl) hg k.1.symm (k.2.1 n ks st hs.1))
    rw [hs.2] at t1
    exact (seq_nx (exp_ok (s1 _ _ st (size_ok hs.1.1)))).trans ((seq_nx ((if_f t1).trans rfl)).trans rfl)
  · rw [env0, b_check_set]
    have t1 := not_ok (p := false) (callE_ok (G := G) (evs2_ok (a := .var 0) (b := .var 1) (env := [some (.dat (.int (n : Nat))), some (.dat d)]) (st := st) (st1 := st) (st2 := st) rfl rfl) hg k.1.symm (by
      rcases hd with hd | ⟨ks, rfl, hb, ha⟩
      · exact k.2.2 n d st hd
      · rw [k.2.1 n ks st hb, ha]))
    refine (seq_nx (exp_ok (s1 _ _ st (size_ok hn)))).trans ?_
    rw [exB_cons, if_t t1]
    rfl
  · rw [env0, b_check_set]
    exact exp_exc (callE_exc (evs1_ok rfl) hf h.1.symm (by rw [h.2 d st, hd, if_neg Bool.false_ne_true]))
/-- a def that begins with a check of its set -/
theorem bad_of {nm : Str} {G : List Fn} {i c0 c2 slots : Nat} {g : Fn} {b : IB} (hg : G[i]? = some g) (ha : g.ar = 2) (k : Bad c0 c2 g) : Bad c0 c2 ⟨nm, 2, runDef G slots (.cons (.exp (.call i (.cons (.var 0) (.cons (.var 1) .nil)))) b)⟩ := by
  have ee : ∀ (x y : PyData) (st : Store), evs G (.cons (.var 0) (.cons (.var 1) .nil)) (startE slots [.dat x, .dat y]) st = .ok [.dat x, .dat y] st := fun x y st => evs2_ok rfl rfl
  exact ⟨fun n d st hn hd => run_exc (exp_exc (callE_exc (ee _ _ st) hg ha.symm (k.1 n d st hn hd))), fun d e st hd => run_exc (exp_exc (callE_exc (ee _ _ st) hg ha.symm (k.2 d e st hd)))⟩
theorem set_first {G : List Fn} {i c0 c2 slots : Nat} {g : Fn} {b : IB} {n : Nat} {ks : List Nat} {st : Store} (hg : G[i]? = some g) (k : Is2 c0 c2 (fun _ _ => .inl .none) g) (hs : SetOk n ks) : exB G (.cons (.exp (.call i (.cons (.var 0) (.cons (.var 1) .nil)))) b) (startE slots [.dat (.int (n : Nat)), .dat (sd n ks)]) st = exB G b (startE slots [.dat (.int (n : Nat)), .dat (sd n ks)]) st :=
  seq_nx (exp_ok (callE_ok (evs2_ok rfl rfl) hg k.1.symm (k.2.1 n ks st hs)))
def linesD (n : Nat) (ks : List Nat) : PyData := .list ((linesL n ks).map (tri n))
theorem tri_itr (n : Nat) (t : Nat × Nat × Nat) : itr 2 (tri n t) = true := by
  unfold tri
  rw [itr, itrs, itrs, itrs, itrs, pd_itr, pd_itr, pd_itr]
  rfl
theorem linesD_itr (n : Nat) (ks : List Nat) : itr 3 (linesD n ks) = true := by
  unfold linesD
  rw [itr]
  exact itrs_of fun x hx => by
    obtain ⟨t, _, rfl⟩ := List.mem_map.mp hx
    exact tri_itr n t
theorem linesD_none (n : Nat) (ks : List Nat) : cmpD .Eq (linesD n ks) (.list []) = some (linesL n ks).isEmpty := by
  rw [itr_eq (linesD_itr n ks) (e := 1) rfl (by decide) (by decide)]
  unfold linesD
  rw [same]
  cases linesL n ks <;> rfl
theorem linesD_some (n : Nat) (ks : List Nat) : cmpD .NotEq (linesD n ks) (.list []) = some (!(linesL n ks).isEmpty) := by
  have := linesD_none n ks
  show (eqD _ _).map (!·) = _
  rw [show eqD _ _ = _ from this]
  rfl
theorem isLinesIn {nm : Str} {G : List Fn} {i j c0 c2 : Nat} {f g : Fn} (hf : G[i]? = some f) (h : Is2 c0 c2 (fun _ _ => .inl .none) f) (hg : G[j]? = some g) (k : IsLineList g) : Is2 c0 c2 (fun n ks => .inl (linesD n ks)) ⟨nm, 2, runDef G 2 (b_lines_in i j)⟩ := by
  refine ⟨rfl, fun n ks st hs => run_rt ?_, bad_of hf h.1 h.2.2⟩
  rw [b_lines_in]
  show ∃ v s, _
  rw [set_first hf h hs]
  exact RtB.ret (callE_ok (evs1_ok rfl) hg k.1.symm (k.2 n ks _ st (Nat.le_trans hs.1.1.2 (by decide)) hs.1.2.1 hs.1.2.2 (.inl rfl))) (fin_dat rfl)
theorem isFree {nm : Str} {G : List Fn} {i j c0 c2 : Nat} {f g : Fn} (hf : G[i]? = some f) (h : Is2 c0 c2 (fun _ _ => .inl .none) f) (hg : G[j]? = some g) (k : IsLineList g) : Is2 c0 c2 (fun n ks => .inl (.bool (linesL n ks).isEmpty)) ⟨nm, 2, runDef G 2 (b_is_free i j)⟩ := by
  refine ⟨rfl, fun n ks st hs => run_rt ?_, bad_of hf h.1 h.2.2⟩
  rw [b_is_free]
  show ∃ v s, _
  rw [set_first hf h hs]
  exact RtB.ret (cmp_ok (callE_ok (evs1_ok rfl) hg k.1.symm (k.2 n ks _ st (Nat.le_trans hs.1.1.2 (by decide)) hs.1.2.1 hs.1.2.2 (.inl rfl))) rfl (linesD_none n ks)) (fin_dat rfl)
end PD

set_option Elab.async false
set_option linter.all false
set_option maxRecDepth 100000
set_option maxHeartbeats 2000000
namespace PD
open PySem
theorem set_of {nm : Str} {G : List Fn} {i c0 c2 slots : Nat} {f : Fn} {b : IB} {out : Nat → List Nat → PyData ⊕ Nat} (hf : G[i]? = some f) (h : Is2 c0 c2 (fun _ _ => .inl .none) f)
    (k : ∀ n ks st, SetOk n ks → match out n ks with
      | .inl d => RtB G b (startE slots [.dat (.int (n : Nat)), .dat (sd n ks)]) st fun v s => fin st.length v s = .ok (.dat d) st
      | .inr c => exB G b (startE slots [.dat (.int (n : Nat)), .dat (sd n ks)]) st = .exc c st) :
    Is2 c0 c2 out ⟨nm, 2, runDef G slots (.cons (.exp (.call i (.cons (.var 0) (.cons (.var 1) .nil)))) b)⟩ := by
  refine ⟨rfl, fun n ks st hs => ?_, bad_of hf h.1 h.2.2⟩
  have q := k n ks st hs
  cases e : out n ks with
  | inl d =>
    rw [e] at q
    refine run_rt ?_
    show ∃ v s, _
    rw [set_first hf h hs]
    exact q
  | inr c =>
    rw [e] at q
    refine run_exc ?_
    rw [set_first hf h hs]
    exact q
theorem ll_ok {G : List Fn} {j : Nat} {g : Fn} (hg : G[j]? = some g) (k : IsLineList g) {n : Nat} {ks : List Nat} (hs : SetOk n ks) {e : IE} {env : Env} {st : Store} (he : ev G e env st = .ok (.dat (sd n ks)) st) : ev G (.call j (.cons e .nil)) env st = .ok (.dat (linesD n ks)) st :=
  callE_ok (evs1_ok he) hg k.1.symm (k.2 n ks _ st (Nat.le_trans hs.1.1.2 (by decide)) hs.1.2.1 hs.1.2.2 (.inl rfl))
/-! first_line -/
def firstO (c : Nat) (n : Nat) (ks : List Nat) : PyData ⊕ Nat := match linesL n ks with
  | [] => .inr c
  | t :: _ => .inl (tri n t)
theorem ifF_ex {G : List Fn} {t : IE} {a b : IB} {env : Env} {st : Store} (h : ev G t env st = .ok (.dat (.bool false)) st) : exB G (.cons (.ife t a .nil) b) env st = exB G b env st := seq_nx ((if_f h).trans rfl)
theorem ifT_exc {G : List Fn} {t : IE} {a b : IB} {c : Nat} {env : Env} {st : Store} (h : ev G t env st = .ok (.dat (.bool true)) st) : exB G (.cons (.ife t (.cons (.rais c) a) .nil) b) env st = .exc c st := by
  rw [exB_cons, if_t h]
  rfl
theorem isFirstLine {nm : Str} {G : List Fn} {i j c0 c2 c5 : Nat} {f g : Fn} (hf : G[i]? = some f) (h : Is2 c0 c2 (fun _ _ => .inl .none) f) (hg : G[j]? = some g) (k : IsLineList g) : Is2 c0 c2 (firstO c5) ⟨nm, 2, runDef G 3 (b_first_line i j c5)⟩ := by
  rw [b_first_line]
  refine set_of hf h fun n ks st hs => ?_
  have env0 : startE 3 [.dat (.int (n : Nat)), .dat (sd n ks)] = [some (.dat (.int (n : Nat))), some (.dat (sd n ks)), none] := rfl
  have e1 := ll_ok hg k hs (e := .var 1) (env := [some (.dat (.int (n : Nat))), some (.dat (sd n ks)), none]) (st := st) rfl
  have t1 := cmp_ok (G := G) (a := .var 2) (b := .lst .nil) (env := [some (.dat (.int (n : Nat))), some (.dat (sd n ks)), some (.dat (linesD n ks))]) (st := st) rfl rfl (linesD_none n ks)
  rw [env0]
  unfold firstO
  cases hl : linesL n ks with
  | nil =>
    rw [hl] at t1
    simp only
    refine (seq_nx (set_ok e1)).trans ?_
    exact ifT_exc t1
  | cons t r =>
    rw [hl] at t1
    simp only
    refine RtB.cons (NxS.set e1 (RtB.cons (NxS.ifF t1 (NxB.nil (RtB.ret (v := .dat (tri n t)) ?_ (fin_dat rfl))))))
    refine ix_ok (ds := (linesL n ks).map (tri n)) (n := 0) rfl rfl ?_
    rw [hl]
    exact at_pos (j := 0) (by decide) rfl rfl
/-! count_pure -/
def pureN (n : Nat) (ks : List Nat) : Int := ((3 ^ n : Nat) : Int) * (((3 ^ n : Nat) : Int) - 1) / 6 - (ks.length : Int) * (((3 ^ n : Nat) : Int) - ks.length) / 2
theorem isCountPure {nm : Str} {G : List Fn} {i j c0 c2 : Nat} {f g : Fn} (hf : G[i]? = some f) (h : Is2 c0 c2 (fun _ _ => .inl .none) f) (hg : G[j]? = some g) (k : IsAllPlaces g) : Is2 c0 c2 (fun n ks => .inl (.int (pureN n ks))) ⟨nm, 2, runDef G 3 (b_count_pure j i)⟩ := by
  rw [b_count_pure]
  refine set_of hf h fun n ks st hs => ?_
  have env0 : startE 3 [.dat (.int (n : Nat)), .dat (sd n ks)] = [some (.dat (.int (n : Nat))), some (.dat (sd n ks)), none] := rfl
  have p3 : 3 ^ n ≤ 27 := Nat.le_trans (Nat.pow_le_pow_right (by decide) hs.1.1.2) (by decide)
  have hkl := hs.1.2.2
  have q0 : (0 : Int) ≤ ((3 ^ n : Nat) : Int) := Int.natCast_nonneg _
  have q1 : ((3 ^ n : Nat) : Int) ≤ 27 := Int.ofNat_le.mpr p3
  have e1 : ev G (.blt .len (.cons (.call j (.cons (.var 0) .nil)) .nil)) [some (.dat (.int (n : Nat))), some (.dat (sd n ks)), none] st = .ok (.dat (.int ((3 ^ n : Nat) : Int))) st := blt1_ok (callE_ok (evs1_ok rfl) hg k.1.symm (k.2 n st hs.1.1.2)) rfl (by
    rw [lenL_of]
    unfold pds
    rw [List.length_map, List.length_range])
  rw [env0]
  have sm : ∀ i : Int, -1000000 ≤ i → i ≤ 1000000 → small i = true := fun i h1 h2 => by
    unfold small
    rw [Bool.and_eq_true, decide_eq_true_eq, decide_eq_true_eq]
    omega
  have len1 : bltD .len [sd n ks] = some (.int (ks.length : Nat)) := by
    unfold sd
    rw [len_of]
    unfold pds
    rw [List.length_map]
  refine RtB.cons (NxS.set e1 (RtB.ret (v := .dat (.int (pureN n ks))) ?_ (fin_dat rfl)))
  refine bin_ok (bin_ok (bin_ok rfl (bin_ok rfl rfl (d_sub _ _)) (d_mu _ _ (.inl (sm _ (by omega) (by omega))))) rfl (d_fd _ 6 (by decide) (by decide))) (bin_ok (bin_ok (blt1_ok rfl rfl len1) (bin_ok rfl (blt1_ok rfl rfl len1) (d_sub _ _)) (d_mu _ _ (.inl (sm _ (by omega) (by omega))))) rfl (d_fd _ 2 (by decide) (by decide))) (d_sub _ _)
/-! check_free -/
def freeO (c : Nat) (o : Nat → List Nat → PyData ⊕ Nat) (n : Nat) (ks : List Nat) : PyData ⊕ Nat := if (linesL n ks).isEmpty then o n ks else .inr c
theorem isCheckFree {nm : Str} {G : List Fn} {i j c0 c2 c6 : Nat} {f g : Fn} (hf : G[i]? = some f) (h : Is2 c0 c2 (fun _ _ => .inl .none) f) (hg : G[j]? = some g) (k : IsLineList g) : Is2 c0 c2 (freeO c6 fun _ _ => .inl .none) ⟨nm, 2, runDef G 2 (b_check_free i j c6)⟩ := by
  refine ⟨rfl, fun n ks st hs => ?_, by rw [b_check_free]; exact bad_of hf h.1 h.2.2⟩
  have t1 := cmp_ok (G := G) (b := .lst .nil) (ll_ok hg k hs (e := .var 1) (env := [some (.dat (.int (n : Nat))), some (.dat (sd n ks))]) (st := st) rfl) rfl (linesD_some n ks)
  unfold freeO
  cases hl : (linesL n ks).isEmpty with
  | true =>
    rw [hl] at t1
    refine run_nx (env := [some (.dat (.int (n : Nat))), some (.dat (sd n ks))]) ?_
    rw [b_check_free, set_first hf h hs]
    exact (ifF_ex t1).trans rfl
  | false =>
    rw [hl] at t1
    refine run_exc ?_
    rw [b_check_free, set_first hf h hs]
    exact ifT_exc t1
/-! open_list -/
def putC (cs : List Nat) (c : Nat) : List Nat := if cs.contains c then cs else cs ++ [c]
def closeIn (n x : Nat) (cs : List Nat) (y : Nat) : List Nat := putC cs (thr n x y)
def closeOut (n : Nat) (cs : List Nat) (x : Nat) (r : List Nat) : List Nat := r.foldl (closeIn n x) (putC cs x)
def closedL (n : Nat) (ks : List Nat) : List Nat := foldE (closeOut n) [] ks
def openL (n : Nat) (ks : List Nat) : List Nat := (List.range (3 ^ n)).filter fun p => !(closedL n ks).contains p
def kvC (n : Nat) (cs : List Nat) : List (PyData × PyData) := cs.map fun c => (pd n c, .bool true)
theorem keys_ints : ∀ (d : Nat) (xs : List Nat), keysOk d (xs.map fun (a : Nat) => PyData.int a) = true
  | d, [] => by rw [List.map_nil, keysOk]
  | d, x :: r => by rw [List.map_cons, keysOk, keyOk, keys_ints d r]; rfl
theorem pd_key (n k : Nat) : tupKey (pd n k) = true := by
  unfold tupKey pd
  rw [keyOk, keys_ints]
  rfl
theorem put_kv {n : Nat} : ∀ {cs : List Nat} {c : Nat}, (∀ b ∈ cs, b < 3 ^ n) → c < 3 ^ n → putD (kvC n cs) (pd n c) (.bool true) = kvC n (putC cs c)
  | [], c, h, hc => rfl
  | b :: r, c, h, hc => by
    have hb := h b List.mem_cons_self
    have ih := put_kv (n := n) (cs := r) (c := c) (fun a ha => h a (List.mem_cons_of_mem _ ha)) hc
    have e1 : kvC n (b :: r) = (pd n b, .bool true) :: kvC n r := rfl
    rw [e1, putD, pd_same hb hc]
    by_cases e : b = c
    · subst e
      rw [decide_eq_true rfl, if_pos rfl]
      unfold putC
      rw [if_pos (by simp)]
      rfl
    · rw [decide_eq_false e, if_neg Bool.false_ne_true, ih]
      have e2 : (b :: r).contains c = r.contains c := by
        rw [List.contains_cons]
        have : (c == b) = false := beq_eq_false_iff_ne.mpr (Ne.symm e)
        rw [this, Bool.false_or]
      unfold putC
      rw [e2]
      cases r.contains c <;> rfl
theorem look_kv {n : Nat} : ∀ {cs : List Nat} {c : Nat}, (∀ b ∈ cs, b < 3 ^ n) → c < 3 ^ n → (lookD (kvC n cs) (pd n c)).isSome = cs.contains c
  | [], c, h, hc => rfl
  | b :: r, c, h, hc => by
    have hb := h b List.mem_cons_self
    have ih := look_kv (n := n) (cs := r) (c := c) (fun a ha => h a (List.mem_cons_of_mem _ ha)) hc
    have e1 : kvC n (b :: r) = (pd n b, .bool true) :: kvC n r := rfl
    rw [e1, lookD, pd_same hb hc, List.contains_cons]
    by_cases e : b = c
    · subst e
      rw [decide_eq_true rfl, if_pos rfl, beq_self_eq_true, Bool.true_or]
      rfl
    · have : (c == b) = false := beq_eq_false_iff_ne.mpr (Ne.symm e)
      rw [decide_eq_false e, if_neg Bool.false_ne_true, ih, this, Bool.false_or]
theorem putC_len (cs : List Nat) (c : Nat) : (putC cs c).length ≤ cs.length + 1 := by
  unfold putC
  split
  · omega
  · rw [List.length_append]
    exact Nat.le_refl _
theorem putC_lt {n : Nat} {cs : List Nat} {c : Nat} (h : ∀ b ∈ cs, b < 3 ^ n) (hc : c < 3 ^ n) : ∀ b ∈ putC cs c, b < 3 ^ n := fun b hb => by
  unfold putC at hb
  split at hb
  · exact h b hb
  · rcases List.mem_append.mp hb with hb | hb
    · exact h b hb
    · rw [List.mem_singleton.mp hb]
      exact hc
def IsOpenList (f : Fn) : Prop := f.ar = 2 ∧ ∀ (n : Nat) (ks : List Nat) (st : Store), InB n ks → f.den [.dat (.int (n : Nat)), .dat (sd n ks)] st = .ok (.dat (.list (pds n (openL n ks)))) st
theorem NxS.setIx {G : List Fn} {o k v : IE} {env : Env} {st : Store} {P : Env → Store → Prop} {n : Nat} {kvs : List (PyData × PyData)} {key d : PyData} (h1 : ev G v env st = .ok (.dat d) st) (h2 : ev G o env st = .ok (.loc n) st) (h3 : ev G k env st = .ok (.dat key) st) (hk : tupKey key = true) (hc : st[n]? = some (.dict kvs)) (hl : kvs.length < LIM) (p : P env (st.set n (.dict (putD kvs key d)))) : NxS G (.setIx o k v) env st P := by
  refine ⟨env, _, ?_, p⟩
  rw [ex, h1]
  show (ev G o env st).toF _ = _
  rw [h2]
  show (ev G k env st).toF _ = _
  rw [h3]
  have e1 : setIxV (.dat d) (.loc n) (.dat key) st = some (st.set n (.dict (putD kvs key d))) := by
    cases key with
    | tuple xs =>
      simp only [setIxV, hc]
      rw [if_pos (by rw [Bool.and_eq_true, decide_eq_true_eq]; exact ⟨hk, hl⟩)]
    | _ => cases hk
  show (match setIxV (.dat d) (.loc n) (.dat key) st with
    | some st4 => F.nx env st4
    | none => .err) = _
  rw [e1]
theorem isOpenList {nm : Str} {G : List Fn} {i j : Nat} {f g : Fn} (hf : G[i]? = some f) (h : IsAllPlaces f) (hg : G[j]? = some g) (k : IsThirdOf g) : IsOpenList ⟨nm, 2, runDef G 7 (b_open_list i j)⟩ := by
  refine ⟨rfl, fun n ks st ⟨hn, hk, hl⟩ => run_rt ?_⟩
  have env0 : startE 7 [.dat (.int (n : Nat)), .dat (sd n ks)] = [some (.dat (.int (n : Nat))), some (.dat (sd n ks)), none, none, none, none, none] := rfl
  rw [env0, b_open_list]
  refine RtB.cons (NxS.set (v := .loc st.length) (st1 := st ++ [.dict (kvC n [])]) rfl ?_)
  refine RtB.cons (NxS.enum (enc := pd n) (all := ks) (src := none) (fun c cs env s => (cs.length ≤ c * 1000 ∧ ∀ b ∈ cs, b < 3 ^ n) ∧ s = st ++ [.dict (kvC n cs)] ∧ ∃ o3 o4 o5, env = [some (.dat (.int (n : Nat))), some (.dat (sd n ks)), some (.loc st.length), o3, o4, o5, none]) (closeOut n) [] (st1 := st ++ [.dict (kvC n [])]) rfl (fun _ _ _ _ _ => rfl) ⟨⟨by simp, by simp⟩, rfl, _, _, _, rfl⟩ ?_ ?_)
  · rintro cs pre x r env s e ⟨⟨ha, hcs⟩, rfl, o3, o4, o5, rfl⟩
    refine ⟨_, rfl, ?_⟩
    obtain ⟨t, ht1, ht2, ht3⟩ := tail_of (d := sd n ks) e (.inl rfl)
    have hx : x < 3 ^ n := hk x (by rw [e]; simp)
    have hkl : ks.length = pre.length + (r.length + 1) := by rw [e, List.length_append, List.length_cons]
    refine NxB.cons (NxS.setIx (d := .bool true) (key := pd n x) (n := st.length) (kvs := kvC n cs) rfl rfl rfl (pd_key n x) (last_get st _) (by unfold kvC; rw [List.length_map]; unfold LIM; omega) ?_)
    rw [last_set, put_kv hcs hx]
    have l1 := putC_len cs x
    refine NxB.cons (NxS.loop (enc := pd n) (xs := r) (src := none) (fun c cs1 env s => (cs1.length ≤ pre.length * 1000 + 1 + c ∧ ∀ b ∈ cs1, b < 3 ^ n) ∧ s = st ++ [.dict (kvC n cs1)] ∧ ∃ o5, env = [some (.dat (.int (n : Nat))), some (.dat (sd n ks)), some (.loc st.length), some (.dat (.int (pre.length : Nat))), some (.dat (pd n x)), o5, none]) (closeIn n x) (putC cs x) (st1 := st ++ [.dict (kvC n (putC cs x))]) ?_ (fun _ _ _ _ _ => rfl) ⟨⟨by omega, putC_lt hcs hx⟩, rfl, _, rfl⟩ ?_ ?_)
    · rw [evI, slc_from (ds := []) rfl (bin_ok rfl rfl (d_ad _ _)) ht1, bind_ok]
      rcases ht3 with rfl | rfl <;> rfl
    · rintro c cs1 y env s hc1 hy ⟨⟨ha1, hcs1⟩, rfl, o5, rfl⟩
      refine ⟨_, rfl, ?_⟩
      have hz := thr_lt n x y
      refine NxB.cons (NxS.setIx (d := .bool true) (key := pd n (thr n x y)) (n := st.length) (kvs := kvC n cs1) rfl rfl (callE_ok (evs2_ok rfl rfl) hg k.1.symm (k.2 n x y _ (by omega))) (pd_key n _) (last_get st _) (by unfold kvC; rw [List.length_map]; unfold LIM; omega) ?_)
      rw [last_set, put_kv hcs1 hz]
      have l2 := putC_len cs1 (thr n x y)
      exact NxB.nil ⟨⟨by unfold closeIn; omega, putC_lt hcs1 hz⟩, rfl, _, rfl⟩
    · rintro e s ⟨⟨h2, h2b⟩, h3, o5', h4⟩
      exact NxB.nil ⟨⟨by
        show (r.foldl (closeIn n x) (putC cs x)).length ≤ _
        omega, h2b⟩, h3, _, _, _, h4⟩
  · rintro e s ⟨⟨_, hcs⟩, rfl, o3, o4, o5, rfl⟩
    have p3 : 3 ^ n ≤ 27 := Nat.le_trans (Nat.pow_le_pow_right (by decide) hn.2) (by decide)
    have hcs2 : ∀ b ∈ closedL n ks, b < 3 ^ n := hcs
    have hcomp := comp_filter (G := G) (own := [6]) (tg := .one 6) (it := .seq (.call i (.cons (.var 0) .nil))) (c := .cmp .NotIn (.var 6) (.var 2)) (e := .var 6) (env := [some (.dat (.int (n : Nat))), some (.dat (sd n ks)), some (.loc st.length), o3, o4, o5, none]) (st := st ++ [.dict (kvC n (closedL n ks))]) (st1 := st ++ [.dict (kvC n (closedL n ks))])
      (xs := List.range (3 ^ n)) (enc := pd n) (out := pd n) (p := fun p => !(closedL n ks).contains p) (src := none) (by
        have ec := callE_ok (G := G) (f := i) (es := .cons (.var 0) .nil) (env := [some (.dat (.int (n : Nat))), some (.dat (sd n ks)), some (.loc st.length), o3, o4, o5, none]) (st := st ++ [.dict (kvC n (closedL n ks))]) (evs1_ok rfl) hf h.1.symm (h.2 n (st ++ [.dict (kvC n (closedL n ks))]) hn.2)
        rw [evI, ec]
        rfl) rfl (by rw [List.length_range]; unfold LIM; omega) fun p hp => by
        have hp3 : p < 3 ^ n := List.mem_range.mp hp
        refine ⟨_, rfl, fun acc => ?_, fun _ acc => rfl⟩
        have e1 : ((st ++ [Cell.dict (kvC n (closedL n ks))]) ++ [Cell.lst acc])[st.length]? = some (.dict (kvC n (closedL n ks))) := by
          rw [List.getElem?_append_left (by rw [List.length_append]; simp)]
          exact last_get st _
        rw [ev_cmp]
        refine Eq.trans (b := cmpV .NotIn (.dat (pd n p)) (.loc st.length) ((st ++ [.dict (kvC n (closedL n ks))]) ++ [.lst acc])) rfl ?_
        unfold cmpV
        simp only [e1]
        rw [if_pos (pd_key n p), look_kv hcs2 hp3]
    exact RtB.ret hcomp fin_data
end PD

set_option Elab.async false
set_option linter.all false
set_option maxRecDepth 100000
set_option maxHeartbeats 2000000
namespace PD
open PySem
/-! sorted, of places -/
def insN (x : Nat) : List Nat → List Nat
  | [] => [x]
  | y :: r => if Nat.ble x y then x :: y :: r else y :: insN x r
def sortN : List Nat → List Nat
  | [] => []
  | x :: r => insN x (sortN r)
theorem ble_dec (j k : Nat) : Nat.ble j k = decide (j ≤ k) := by
  rw [Bool.eq_iff_iff, decide_eq_true_eq]
  rw [Nat.ble_eq]
theorem insN_mem {x a : Nat} : ∀ {ks : List Nat}, a ∈ insN x ks ↔ a = x ∨ a ∈ ks
  | [] => by simp [insN]
  | y :: r => by
    rw [insN]
    split
    · simp
    · rw [List.mem_cons, insN_mem (ks := r), List.mem_cons]
      constructor
      · rintro (h | h | h) <;> simp [h]
      · rintro (h | h | h) <;> simp [h]
theorem sortN_mem {a : Nat} : ∀ {ks : List Nat}, a ∈ sortN ks ↔ a ∈ ks
  | [] => by simp [sortN]
  | x :: r => by rw [sortN, insN_mem, sortN_mem, List.mem_cons]
theorem insN_len (x : Nat) : ∀ ks : List Nat, (insN x ks).length = ks.length + 1
  | [] => rfl
  | y :: r => by
    rw [insN]
    split
    · rfl
    · rw [List.length_cons, insN_len x r, List.length_cons]
theorem sortN_len : ∀ ks : List Nat, (sortN ks).length = ks.length
  | [] => rfl
  | x :: r => by rw [sortN, insN_len, sortN_len r, List.length_cons]
theorem pd_le {n j k : Nat} (hj : j < 3 ^ n) (hk : k < 3 ^ n) : W.dataLe false (fun d => d) (pd n j) (pd n k) = Nat.ble j k := by
  have h : W.dataLe false (fun d => d) (pd n j) (pd n k) = !W.dataLt (pd n k) (pd n j) := rfl
  rw [h, pd_dataLt hk hj, ble_dec, Bool.eq_iff_iff]
  simp
theorem ins_pds {n x : Nat} (hx : x < 3 ^ n) : ∀ {ks : List Nat}, (∀ k ∈ ks, k < 3 ^ n) → insD (pd n x) (pds n ks) = pds n (insN x ks)
  | [], _ => rfl
  | y :: r, h => by
    have e : pds n (y :: r) = pd n y :: pds n r := rfl
    rw [e, insD, pd_le hx (h y List.mem_cons_self), insN, ins_pds hx fun k hk => h k (List.mem_cons_of_mem _ hk)]
    cases Nat.ble x y <;> rfl
theorem sort_pds {n : Nat} : ∀ {ks : List Nat}, (∀ k ∈ ks, k < 3 ^ n) → sortD (pds n ks) = pds n (sortN ks)
  | [], _ => rfl
  | x :: r, h => by
    have hr := fun k hk => h k (List.mem_cons_of_mem x hk)
    have e : pds n (x :: r) = pd n x :: pds n r := rfl
    rw [e, sortD, sort_pds hr, sortN, ins_pds (h x List.mem_cons_self) fun k hk => hr k (sortN_mem.mp hk)]
theorem ofKs_ints : ∀ xs : List Nat, ofKs 0 (xs.map fun (a : Nat) => PyData.int a) = true
  | [] => by rw [List.map_nil, ofKs]
  | x :: r => by rw [List.map_cons, ofKs, ofK, ofKs_ints r]; rfl
theorem ofKs_pds (n : Nat) : ∀ ks : List Nat, ofKs 1 (pds n ks) = true
  | [] => by
    show ofKs 1 [] = true
    rw [ofKs]
  | x :: r => by
    show ofKs 1 (pd n x :: pds n r) = true
    rw [ofKs, ofKs_pds n r]
    unfold pd
    rw [ofK, ofKs_ints]
    rfl
theorem sortable_pds {n : Nat} {ks : List Nat} (hn : 1 ≤ n) (hl : ks.length ≤ 1000) : sortable (pds n ks) = true := by
  unfold sortable
  have h1 : alikes (pds n ks) = true := by
    unfold alikes
    rw [ofKs_pds]
    simp
  have h2 : plainOrd (pds n ks) = true := by
    unfold plainOrd
    rw [Bool.or_eq_true]
    refine .inl ?_
    rw [List.all_eq_true]
    intro x hx
    obtain ⟨k, _, rfl⟩ := List.mem_map.mp hx
    obtain ⟨m, rfl⟩ : ∃ m, n = m + 1 := ⟨n - 1, by omega⟩
    rfl
  have h3 : PyData.depthAll (pds n ks) ≤ 1 := (itrs_shape 1 _ (pds_itr n ks)).2
  have h4 : (pds n ks).length = ks.length := List.length_map ..
  rw [h1, h2, h4]
  simp only [Bool.true_or, Bool.true_and, Bool.and_eq_true, decide_eq_true_eq]
  exact ⟨by omega, by unfold LIM; omega⟩
theorem sorted_pds {n : Nat} {ks : List Nat} (hn : 1 ≤ n) (hl : ks.length ≤ 1000) (h : ∀ k ∈ ks, k < 3 ^ n) : sortO (pds n ks) = some (.list (pds n (sortN ks))) := by
  unfold sortO
  rw [if_pos (sortable_pds hn hl), sort_pds h]
/-! what begins with check_free -/
theorem free_of {nm : Str} {G : List Fn} {i c0 c2 c6 slots : Nat} {f : Fn} {b : IB} {out : Nat → List Nat → PyData ⊕ Nat} (hf : G[i]? = some f) (h : Is2 c0 c2 (freeO c6 fun _ _ => .inl .none) f)
    (k : ∀ n ks st, SetOk n ks → (linesL n ks).isEmpty = true → match out n ks with
      | .inl d => RtB G b (startE slots [.dat (.int (n : Nat)), .dat (sd n ks)]) st fun v s => fin st.length v s = .ok (.dat d) st
      | .inr c => exB G b (startE slots [.dat (.int (n : Nat)), .dat (sd n ks)]) st = .exc c st) :
    Is2 c0 c2 (freeO c6 out) ⟨nm, 2, runDef G slots (.cons (.exp (.call i (.cons (.var 0) (.cons (.var 1) .nil)))) b)⟩ := by
  refine ⟨rfl, fun n ks st hs => ?_, bad_of hf h.1 h.2.2⟩
  have q0 := h.2.1 n ks st hs
  have ee : evs G (.cons (.var 0) (.cons (.var 1) .nil)) (startE slots [.dat (.int (n : Nat)), .dat (sd n ks)]) st = .ok [.dat (.int (n : Nat)), .dat (sd n ks)] st := evs2_ok rfl rfl
  unfold freeO at q0 ⊢
  cases hl : (linesL n ks).isEmpty with
  | false =>
    rw [hl, if_neg Bool.false_ne_true] at q0
    rw [if_neg Bool.false_ne_true]
    exact run_exc (exp_exc (callE_exc ee hf h.1.symm q0))
  | true =>
    rw [hl, if_pos rfl] at q0
    rw [if_pos rfl]
    have q := k n ks st hs hl
    have s1 : exB G (.cons (.exp (.call i (.cons (.var 0) (.cons (.var 1) .nil)))) b) (startE slots [.dat (.int (n : Nat)), .dat (sd n ks)]) st = exB G b (startE slots [.dat (.int (n : Nat)), .dat (sd n ks)]) st := seq_nx (exp_ok (callE_ok ee hf h.1.symm q0))
    cases e : out n ks with
    | inl d =>
      rw [e] at q
      refine run_rt ?_
      show ∃ v s, _
      rw [s1]
      exact q
    | inr c =>
      rw [e] at q
      refine run_exc ?_
      rw [s1]
      exact q
theorem ol_ok {G : List Fn} {j : Nat} {g : Fn} (hg : G[j]? = some g) (k : IsOpenList g) {n : Nat} {ks : List Nat} (hs : InB n ks) {a b : IE} {env : Env} {st : Store} (ha : ev G a env st = .ok (.dat (.int (n : Nat))) st) (hb : ev G b env st = .ok (.dat (sd n ks)) st) : ev G (.call j (.cons a (.cons b .nil))) env st = .ok (.dat (.list (pds n (openL n ks)))) st :=
  callE_ok (evs2_ok ha hb) hg k.1.symm (k.2 n ks st hs)
theorem pdsL_none (n : Nat) (ks : List Nat) : cmpD .Eq (.list (pds n ks)) (.list []) = some ks.isEmpty := by
  rw [itr_eq (d := 2) (by rw [itr]; exact pds_itr n ks) (e := 1) rfl (by decide) (by decide), same]
  cases ks <;> rfl
theorem pdsL_some (n : Nat) (ks : List Nat) : cmpD .NotEq (.list (pds n ks)) (.list []) = some (!ks.isEmpty) := by
  have := pdsL_none n ks
  show (eqD _ _).map (!·) = _
  rw [show eqD _ _ = _ from this]
  rfl
theorem isOpenPlaces {nm : Str} {G : List Fn} {i j c0 c2 c6 : Nat} {f g : Fn} (hf : G[i]? = some f) (h : Is2 c0 c2 (freeO c6 fun _ _ => .inl .none) f) (hg : G[j]? = some g) (k : IsOpenList g) : Is2 c0 c2 (freeO c6 fun n ks => .inl (.list (pds n (openL n ks)))) ⟨nm, 2, runDef G 2 (b_open_places i j)⟩ := by
  rw [b_open_places]
  exact free_of hf h fun n ks st hs _ => RtB.ret (ol_ok hg k hs.1 rfl rfl) (fin_dat rfl)
theorem isComplete {nm : Str} {G : List Fn} {i j c0 c2 c6 : Nat} {f g : Fn} (hf : G[i]? = some f) (h : Is2 c0 c2 (freeO c6 fun _ _ => .inl .none) f) (hg : G[j]? = some g) (k : IsOpenList g) : Is2 c0 c2 (freeO c6 fun n ks => .inl (.bool (openL n ks).isEmpty)) ⟨nm, 2, runDef G 2 (b_is_complete i j)⟩ := by
  rw [b_is_complete]
  exact free_of hf h fun n ks st hs _ => RtB.ret (cmp_ok (ol_ok hg k hs.1 rfl rfl) rfl (pdsL_none n _)) (fin_dat rfl)
end PD

set_option Elab.async false
set_option linter.all false
set_option maxRecDepth 100000
set_option maxHeartbeats 2000000
namespace PD
open PySem
theorem asc_cons (x y : Nat) (r : List Nat) : asc (x :: y :: r) = (Nat.blt x y && asc (y :: r)) := rfl
theorem asc_above : ∀ (r : List Nat) (x : Nat), asc (x :: r) = true → ∀ y ∈ r, x < y
  | [], _, _, y, hy => by simp at hy
  | z :: r, x, h, y, hy => by
    rw [asc_cons, Bool.and_eq_true, blt_dec, decide_eq_true_eq] at h
    rcases List.mem_cons.mp hy with rfl | hy
    · exact h.1
    · exact Nat.lt_trans h.1 (asc_above r z h.2 y hy)
theorem asc_tail {x : Nat} {r : List Nat} (h : asc (x :: r) = true) : asc r = true := by
  cases r with
  | nil => rfl
  | cons y r =>
    rw [asc_cons, Bool.and_eq_true] at h
    exact h.2
theorem asc_len {N : Nat} : ∀ (ks : List Nat) (m : Nat), asc ks = true → (∀ k ∈ ks, m ≤ k ∧ k < N) → ks.length ≤ N - m
  | [], _, _, _ => Nat.zero_le _
  | x :: r, m, h, hk => by
    have hx := hk x List.mem_cons_self
    have := asc_len r (x + 1) (asc_tail h) fun k hr => ⟨asc_above r x h k hr, (hk k (List.mem_cons_of_mem _ hr)).2⟩
    rw [List.length_cons]
    omega
theorem set27 {n : Nat} {ks : List Nat} (h : SetOk n ks) : ks.length ≤ 27 := by
  have p3 : 3 ^ n ≤ 27 := Nat.le_trans (Nat.pow_le_pow_right (by decide) h.1.1.2) (by decide)
  have := asc_len (N := 3 ^ n) ks 0 h.2 fun k hk => ⟨Nat.zero_le _, h.1.2.1 k hk⟩
  omega
theorem putC_mem {cs : List Nat} {c a : Nat} : a ∈ putC cs c ↔ a ∈ cs ∨ a = c := by
  unfold putC
  split
  · rename_i h
    rw [List.contains_iff_mem] at h
    constructor
    · exact .inl
    · rintro (h1 | rfl)
      · exact h1
      · exact h
  · rw [List.mem_append, List.mem_singleton]
theorem closeIn_keeps {n x a : Nat} : ∀ (r cs : List Nat), a ∈ cs → a ∈ r.foldl (closeIn n x) cs
  | [], _, h => h
  | y :: r, cs, h => closeIn_keeps r _ (putC_mem.mpr (.inl h))
theorem closed_has {n a : Nat} : ∀ (ks cs : List Nat), a ∈ cs ∨ a ∈ ks → a ∈ foldE (closeOut n) cs ks
  | [], _, h => by
    rcases h with h | h
    · exact h
    · simp at h
  | x :: r, cs, h => by
    rw [foldE]
    refine closed_has r _ ?_
    rcases h with h | h
    · exact .inl (closeIn_keeps r _ (putC_mem.mpr (.inl h)))
    · rcases List.mem_cons.mp h with rfl | h
      · exact .inl (closeIn_keeps r _ (putC_mem.mpr (.inr rfl)))
      · exact .inr h
theorem open_lt {n p : Nat} {ks : List Nat} (h : p ∈ openL n ks) : p < 3 ^ n ∧ p ∉ ks := by
  unfold openL at h
  rw [List.mem_filter, List.mem_range] at h
  refine ⟨h.1, fun hp => ?_⟩
  have : p ∈ closedL n ks := closed_has ks [] (.inr hp)
  have e : (closedL n ks).contains p = true := List.contains_iff_mem.mpr this
  rw [e] at h
  exact Bool.false_ne_true h.2
/-- how many places are left -/
def leftN (n : Nat) (ks : List Nat) : Nat := ((List.range (3 ^ n)).filter fun p => !ks.contains p).length
theorem filter_lt {q r : Nat → Bool} {x : Nat} : ∀ l : List Nat, (∀ y, q y = true → r y = true) → x ∈ l → r x = true → q x = false → (l.filter q).length < (l.filter r).length
  | [], _, h, _, _ => by simp at h
  | y :: l, hs, h, hr, hq => by
    have le : ∀ l : List Nat, (l.filter q).length ≤ (l.filter r).length := fun l => by
      induction l with
      | nil => exact Nat.le_refl _
      | cons z t ih =>
        rw [List.filter_cons, List.filter_cons]
        cases hz : q z with
        | true =>
          rw [hs z hz, if_pos rfl, if_pos rfl, List.length_cons, List.length_cons]
          omega
        | false =>
          rw [if_neg Bool.false_ne_true]
          split
          · rw [List.length_cons]
            omega
          · exact ih
    rw [List.filter_cons, List.filter_cons]
    rcases List.mem_cons.mp h with rfl | h
    · rw [hr, hq, if_neg Bool.false_ne_true, if_pos rfl, List.length_cons]
      have := le l
      omega
    · have ih := filter_lt l hs h hr hq
      cases hz : q y with
      | true =>
        rw [hs y hz, if_pos rfl, if_pos rfl, List.length_cons, List.length_cons]
        omega
      | false =>
        rw [if_neg Bool.false_ne_true]
        split
        · rw [List.length_cons]
          omega
        · exact ih
theorem left_add {n p : Nat} {ks : List Nat} (h : p < 3 ^ n) (hp : p ∉ ks) : leftN n (sortN (ks ++ [p])) < leftN n ks := by
  refine filter_lt (x := p) _ (fun y hy => ?_) (List.mem_range.mpr h) ?_ ?_
  · rw [Bool.not_eq_true'] at hy ⊢
    rw [← Bool.not_eq_true, List.contains_iff_mem] at hy ⊢
    exact fun hk => hy (sortN_mem.mpr (List.mem_append_left _ hk))
  · rw [Bool.not_eq_true', ← Bool.not_eq_true, List.contains_iff_mem]
    exact hp
  · rw [Bool.not_eq_false', List.contains_iff_mem]
    exact sortN_mem.mpr (List.mem_append_right _ (List.mem_singleton.mpr rfl))
theorem left_le (n : Nat) (ks : List Nat) : leftN n ks ≤ 3 ^ n := by
  unfold leftN
  refine Nat.le_trans (List.length_filter_le _ _) ?_
  rw [List.length_range]
  exact Nat.le_refl _
/-! while -/
def loopW {σ : Type} (c : σ → Bool) (step : σ → σ) : Nat → σ → σ
  | 0, s => s
  | k + 1, s => if c s then loopW c step k (step s) else s
theorem whileL_ok {σ : Type} {t : Env → Store → R EV} {f : Env → Store → F} (I : σ → Env → Store → Prop) (m : σ → Nat) (c : σ → Bool) (step : σ → σ) (ht : ∀ s env st, I s env st → t env st = .ok (.dat (.bool (c s))) st) (hf : ∀ s env st, I s env st → c s = true → m (step s) < m s ∧ ∃ e s1, f env st = .nx e s1 ∧ I (step s) e s1) :
    ∀ (k n : Nat) (s : σ) (env : Env) (st : Store), m s ≤ k → k < n → I s env st → ∃ e s1, whileL t f n env st = .nx e s1 ∧ I (loopW c step k s) e s1
  | k, 0, _, _, _, _, h, _ => by omega
  | k, n + 1, s, env, st, hm, hk, hi => by
    rw [whileL, ht s env st hi]
    cases hc : c s with
    | false =>
      refine ⟨env, st, rfl, ?_⟩
      cases k with
      | zero => exact hi
      | succ k => rw [loopW, hc]; exact hi
    | true =>
      obtain ⟨h1, e, s1, h2, h3⟩ := hf s env st hi hc
      cases k with
      | zero => omega
      | succ k =>
        obtain ⟨e2, s2, h4, h5⟩ := whileL_ok I m c step ht hf k n (step s) e s1 (by omega) (by omega) h3
        refine ⟨e2, s2, ?_, ?_⟩
        · show (f env st).bind _ = _
          rw [h2]
          exact h4
        · rw [loopW, hc]
          exact h5
theorem NxS.whl {σ : Type} {G : List Fn} {t : IE} {a : IB} {env : Env} {st : Store} {P : Env → Store → Prop} (I : σ → Env → Store → Prop) (m : σ → Nat) (c : σ → Bool) (step : σ → σ) (k : Nat) (s : σ) (hi : I s env st) (hm : m s ≤ k) (hk : k < 100000) (ht : ∀ s env st, I s env st → ev G t env st = .ok (.dat (.bool (c s))) st) (hf : ∀ s env st, I s env st → c s = true → m (step s) < m s ∧ NxB G a env st (I (step s))) (p : ∀ e s1, I (loopW c step k s) e s1 → P e s1) : NxS G (.whl t a) env st P := by
  obtain ⟨e, s1, h1, h2⟩ := whileL_ok I m c step ht hf k fuel s env st hm hk hi
  exact ⟨e, s1, h1, p e s1 h2⟩
/-! completed -/
def growC (n : Nat) (ks : List Nat) : List Nat := match openL n ks with
  | [] => ks
  | p :: _ => sortN (ks ++ [p])
def complL (n : Nat) (ks : List Nat) : List Nat := loopW (fun ks => !(openL n ks).isEmpty) (growC n) 27 ks
theorem isCompleted {nm : Str} {G : List Fn} {i j c0 c2 c6 : Nat} {f g : Fn} (hf : G[i]? = some f) (h : Is2 c0 c2 (freeO c6 fun _ _ => .inl .none) f) (hg : G[j]? = some g) (k : IsOpenList g) : Is2 c0 c2 (freeO c6 fun n ks => .inl (sd n (complL n ks))) ⟨nm, 2, runDef G 3 (b_completed i j)⟩ := by
  rw [b_completed]
  refine free_of hf h fun n ks st hs _ => ?_
  have env0 : startE 3 [.dat (.int (n : Nat)), .dat (sd n ks)] = [some (.dat (.int (n : Nat))), some (.dat (sd n ks)), none] := rfl
  have p3 : 3 ^ n ≤ 27 := Nat.le_trans (Nat.pow_le_pow_right (by decide) hs.1.1.2) (by decide)
  have l0 := set27 hs
  rw [env0]
  refine RtB.cons (NxS.set (ol_ok hg k hs.1 rfl rfl) ?_)
  refine RtB.cons (NxS.whl (σ := List Nat) (fun ks env s => (InB n ks ∧ ks.length + leftN n ks ≤ 100) ∧ s = st ∧ env = [some (.dat (.int (n : Nat))), some (.dat (sd n ks)), some (.dat (.list (pds n (openL n ks))))]) (leftN n) (fun ks => !(openL n ks).isEmpty) (growC n) 27 ks ⟨⟨hs.1, by have := left_le n ks; omega⟩, rfl, rfl⟩ (Nat.le_trans (left_le n ks) p3) (by decide) ?_ ?_ ?_)
  · rintro ks env s ⟨_, rfl, rfl⟩
    exact cmp_ok rfl rfl (pdsL_some n _)
  · rintro ks env s ⟨⟨hb, hl⟩, rfl, rfl⟩ hc
    unfold growC
    cases ho : openL n ks with
    | nil =>
      rw [ho] at hc
      cases hc
    | cons p r =>
      have hp := open_lt (n := n) (ks := ks) (p := p) (by rw [ho]; exact List.mem_cons_self)
      have hlt := left_add hp.1 hp.2
      have hin : ∀ a ∈ ks ++ [p], a < 3 ^ n := fun a ha => by
        rcases List.mem_append.mp ha with ha | ha
        · exact hb.2.1 a ha
        · rw [List.mem_singleton.mp ha]
          exact hp.1
      have hlen : (sortN (ks ++ [p])).length = ks.length + 1 := by rw [sortN_len, List.length_append]; rfl
      have hb2 : InB n (sortN (ks ++ [p])) := ⟨hb.1, fun a ha => hin a (sortN_mem.mp ha), by omega⟩
      have ecat : binop .Add (sd n ks) (.tuple [pd n p]) = some (.tuple (pds n (ks ++ [p]))) := by
        unfold sd
        rw [add_tup _ _ (by unfold pds; rw [List.length_map]; show ks.length + 1 ≤ 1000000; omega)]
        unfold pds
        rw [List.map_append]
        rfl
      have esort : bltD .sorted [.tuple (pds n (ks ++ [p]))] = some (.list (pds n (sortN (ks ++ [p])))) := sorted_pds hb.1.1 (by rw [List.length_append]; show ks.length + 1 ≤ 1000; omega) hin
      have e1 : ev G (.tup (.cons (.ix (.var 2) (.lit (.int 0))) .nil)) [some (.dat (.int (n : Nat))), some (.dat (sd n ks)), some (.dat (.list (pds n (p :: r))))] s = .ok (.dat (.tuple [pd n p])) s := by
        rw [ev_tup, evs1_ok (ix_ok (ds := pds n (p :: r)) (n := 0) (d := pd n p) rfl rfl (at_pos (j := 0) (by decide) rfl rfl))]
        rfl
      refine ⟨hlt, NxB.cons (NxS.set (v := .dat (sd n (sortN (ks ++ [p])))) (blt1_ok (blt1_ok (bin_ok rfl e1 ecat) rfl esort) rfl rfl) (NxB.cons (NxS.set (ol_ok hg k hb2 rfl rfl) (NxB.nil ⟨⟨hb2, by show (sortN (ks ++ [p])).length + leftN n (sortN (ks ++ [p])) ≤ 100; omega⟩, rfl, rfl⟩))))⟩
  · rintro e s ⟨_, rfl, rfl⟩
    exact RtB.ret rfl (fin_dat rfl)
end PD

set_option Elab.async false
set_option linter.all false
set_option maxRecDepth 100000
set_option maxHeartbeats 2000000
namespace PD
open PySem
theorem size_ev {G : List Fn} {i c0 : Nat} {f : Fn} (hf : G[i]? = some f) (h : IsCheckSize c0 f) {d : PyData} {env : Env} {st : Store} (he : ev G (.var 0) env st = .ok (.dat d) st) : ev G (.call i (.cons (.var 0) .nil)) env st = if isInt d 1 3 then .ok (.dat .none) st else .exc c0 st := by
  rw [ev_call, evs1_ok he, bind_ok, callF_at (vs := [.dat d]) hf h.1.symm, h.2 d st]
theorem size_first {G : List Fn} {i c0 : Nat} {f : Fn} {b : IB} (hf : G[i]? = some f) (h : IsCheckSize c0 f) {n : Nat} (hn : 1 ≤ n ∧ n ≤ 3) {env : Env} {st : Store} (he : ev G (.var 0) env st = .ok (.dat (.int (n : Nat))) st) : exB G (.cons (.exp (.call i (.cons (.var 0) .nil))) b) env st = exB G b env st := by
  have q := size_ev hf h he
  rw [size_ok hn, if_pos rfl] at q
  exact seq_nx (exp_ok q)
theorem size_bad {G : List Fn} {i c0 : Nat} {f : Fn} {b : IB} (hf : G[i]? = some f) (h : IsCheckSize c0 f) {d : PyData} (hd : isInt d 1 3 = false) {env : Env} {st : Store} (he : ev G (.var 0) env st = .ok (.dat d) st) : exB G (.cons (.exp (.call i (.cons (.var 0) .nil))) b) env st = .exc c0 st := by
  have q := size_ev hf h he
  rw [hd, if_neg Bool.false_ne_true] at q
  exact exp_exc q
def Is1 (c0 : Nat) (out : Nat → PyData) (f : Fn) : Prop := f.ar = 1 ∧ (∀ (n : Nat) (st : Store), 1 ≤ n ∧ n ≤ 3 → f.den [.dat (.int (n : Nat))] st = .ok (.dat (out n)) st) ∧ ∀ (d : PyData) (st : Store), isInt d 1 3 = false → f.den [.dat d] st = .exc c0 st
theorem isGreatest {nm : Str} {G : List Fn} {i c0 : Nat} {f : Fn} (hf : G[i]? = some f) (h : IsCheckSize c0 f) : Is1 c0 (fun n => .int (([2, 4, 9] : List Int).getD (n - 1) 0)) ⟨nm, 1, runDef G 1 (b_greatest_size i)⟩ := by
  refine ⟨rfl, fun n st hn => run_rt ?_, fun d st hd => run_exc ?_⟩
  · rw [b_greatest_size]
    show ∃ v s, _
    rw [size_first hf h hn (env := startE 1 [.dat (.int (n : Nat))]) rfl]
    rcases (by omega : n = 1 ∨ n = 2 ∨ n = 3) with rfl | rfl | rfl <;> exact ⟨_, _, rfl, fin_dat rfl⟩
  · rw [b_greatest_size]
    exact size_bad hf h hd (env := startE 1 [.dat d]) rfl
theorem isLines {nm : Str} {G : List Fn} {i j k c0 : Nat} {f g e : Fn} (hf : G[i]? = some f) (h : IsCheckSize c0 f) (hg : G[j]? = some g) (h2 : IsAllPlaces g) (he : G[k]? = some e) (h3 : IsLineList e) : Is1 c0 (fun n => linesD n (List.range (3 ^ n))) ⟨nm, 1, runDef G 1 (b_lines j i k)⟩ := by
  refine ⟨rfl, fun n st hn => run_rt ?_, fun d st hd => run_exc ?_⟩
  · have p3 : 3 ^ n ≤ 27 := Nat.le_trans (Nat.pow_le_pow_right (by decide) hn.2) (by decide)
    rw [b_lines]
    show ∃ v s, _
    rw [size_first hf h hn (env := startE 1 [.dat (.int (n : Nat))]) rfl]
    exact RtB.ret (callE_ok (evs1_ok (callE_ok (evs1_ok rfl) hg h2.1.symm (h2.2 n st hn.2))) he h3.1.symm (h3.2 n _ _ st (by omega) (fun a ha => List.mem_range.mp ha) (by rw [List.length_range]; omega) (.inr rfl))) (fin_dat rfl)
  · rw [b_lines]
    exact size_bad hf h hd (env := startE 1 [.dat d]) rfl
/-- a value whose tuple, if it is one, is not too long -/
def Short (d : PyData) : Prop := ∀ xs, d = .tuple xs → xs.length ≤ 1000
theorem pd_short (n k : Nat) (h : n ≤ 1000) : Short (pd n k) := fun xs e => by
  unfold pd at e
  cases e
  rw [List.length_map, dig_len]
  exact h
def IsPlace (c0 : Nat) (f : Fn) : Prop := f.ar = 2 ∧ (∀ (n : Nat) (d : PyData) (st : Store), 1 ≤ n ∧ n ≤ 3 → Short d → f.den [.dat (.int (n : Nat)), .dat d] st = .ok (.dat (.bool (fitsB n d))) st) ∧ ∀ (d e : PyData) (st : Store), isInt d 1 3 = false → f.den [.dat d, .dat e] st = .exc c0 st
theorem isPlace {nm : Str} {G : List Fn} {i j c0 : Nat} {f g : Fn} (hf : G[i]? = some f) (h : IsCheckSize c0 f) (hg : G[j]? = some g) (k : IsFits g) : IsPlace c0 ⟨nm, 2, runDef G 2 (b_is_place i j)⟩ := by
  refine ⟨rfl, fun n d st hn hd => run_rt ?_, fun d e st hd => run_exc ?_⟩
  · rw [b_is_place]
    show ∃ v s, _
    rw [size_first hf h hn (env := startE 2 [.dat (.int (n : Nat)), .dat d]) rfl]
    exact RtB.ret (callE_ok (evs2_ok rfl rfl) hg k.1.symm (k.2 n d st hd)) (fin_dat rfl)
  · rw [b_is_place]
    exact size_bad hf h hd (env := startE 2 [.dat d, .dat e]) rfl
def IsIsSet (c0 : Nat) (f : Fn) : Prop := f.ar = 2 ∧ (∀ (n : Nat) (ks : List Nat) (st : Store), InB n ks → f.den [.dat (.int (n : Nat)), .dat (sd n ks)] st = .ok (.dat (.bool (asc ks))) st) ∧ (∀ (n : Nat) (d : PyData) (st : Store), 1 ≤ n ∧ n ≤ 3 → OddSet n d → f.den [.dat (.int (n : Nat)), .dat d] st = .ok (.dat (.bool false)) st) ∧ ∀ (d e : PyData) (st : Store), isInt d 1 3 = false → f.den [.dat d, .dat e] st = .exc c0 st
theorem isIsSet {nm : Str} {G : List Fn} {i j c0 : Nat} {f g : Fn} (hf : G[i]? = some f) (h : IsCheckSize c0 f) (hg : G[j]? = some g) (k : IsLies g) : IsIsSet c0 ⟨nm, 2, runDef G 2 (b_is_set i j)⟩ := by
  refine ⟨rfl, fun n ks st hb => run_rt ?_, fun n d st hn hd => run_rt ?_, fun d e st hd => run_exc ?_⟩
  · rw [b_is_set]
    show ∃ v s, _
    rw [size_first hf h hb.1 (env := startE 2 [.dat (.int (n : Nat)), .dat (sd n ks)]) rfl]
    exact RtB.ret (callE_ok (evs2_ok rfl rfl) hg k.1.symm (k.2.1 n ks st hb)) (fin_dat rfl)
  · rw [b_is_set]
    show ∃ v s, _
    rw [size_first hf h hn (env := startE 2 [.dat (.int (n : Nat)), .dat d]) rfl]
    exact RtB.ret (callE_ok (evs2_ok rfl rfl) hg k.1.symm (k.2.2 n d st hd)) (fin_dat rfl)
  · rw [b_is_set]
    exact size_bad hf h hd (env := startE 2 [.dat d, .dat e]) rfl
/-! third -/
def IsThird (c0 c1 : Nat) (f : Fn) : Prop := f.ar = 3 ∧ (∀ (n j k : Nat) (st : Store), 1 ≤ n ∧ n ≤ 3 → j < 3 ^ n → k < 3 ^ n → f.den [.dat (.int (n : Nat)), .dat (pd n j), .dat (pd n k)] st = if j = k then .exc c1 st else .ok (.dat (pd n (thr n j k))) st) ∧ (∀ (n : Nat) (d e : PyData) (st : Store), 1 ≤ n ∧ n ≤ 3 → Short d → Short e → (fitsB n d && fitsB n e) = false → f.den [.dat (.int (n : Nat)), .dat d, .dat e] st = .exc c1 st) ∧ ∀ (d e x : PyData) (st : Store), isInt d 1 3 = false → f.den [.dat d, .dat e, .dat x] st = .exc c0 st
theorem isThird {nm : Str} {G : List Fn} {i j k c0 c1 : Nat} {f g e : Fn} (hf : G[i]? = some f) (h : IsCheckSize c0 f) (hg : G[j]? = some g) (h2 : IsFits g) (he : G[k]? = some e) (h3 : IsThirdOf e) : IsThird c0 c1 ⟨nm, 3, runDef G 3 (b_third i j k c1)⟩ := by
  have env0 : ∀ x y z : PyData, startE 3 [.dat x, .dat y, .dat z] = [some (.dat x), some (.dat y), some (.dat z)] := fun _ _ _ => rfl
  have f1 : ∀ (n : Nat) (x y : PyData) (st : Store), Short x → ev G (.call j (.cons (.var 0) (.cons (.var 1) .nil))) [some (.dat (.int (n : Nat))), some (.dat x), some (.dat y)] st = .ok (.dat (.bool (fitsB n x))) st := fun n x y st hx => callE_ok (evs2_ok rfl rfl) hg h2.1.symm (h2.2 n x st hx)
  have f2 : ∀ (n : Nat) (x y : PyData) (st : Store), Short y → ev G (.call j (.cons (.var 0) (.cons (.var 2) .nil))) [some (.dat (.int (n : Nat))), some (.dat x), some (.dat y)] st = .ok (.dat (.bool (fitsB n y))) st := fun n x y st hy => callE_ok (evs2_ok rfl rfl) hg h2.1.symm (h2.2 n y st hy)
  refine ⟨rfl, fun n a b st hn ha hb => ?_, fun n d x st hn hd hx hq => run_exc ?_, fun d x y st hd => run_exc ?_⟩
  · have hle : n ≤ 1000 := by omega
    have g1 := f1 n (pd n a) (pd n b) st (pd_short n a hle)
    have g2 := f2 n (pd n a) (pd n b) st (pd_short n b hle)
    rw [pd_fits] at g1 g2
    have eq : cmpD .Eq (pd n a) (pd n b) = some (decide (a = b)) := by rw [itr_eq (pd_itr n a) (pd_itr n b) (by decide) (by decide), pd_same ha hb]
    have t1 := or_ok (G := G) (not_ok g1) fun _ => or_ok (not_ok g2) fun _ => one_is.trans (cmp_ok (a := .var 1) (b := .var 2) (env := [some (.dat (.int (n : Nat))), some (.dat (pd n a)), some (.dat (pd n b))]) (st := st) rfl rfl eq)
    by_cases e1 : a = b
    · rw [if_pos e1]
      rw [decide_eq_true e1] at t1
      refine run_exc ?_
      rw [b_third, env0, size_first hf h hn rfl]
      exact ifT_exc t1
    · rw [if_neg e1]
      rw [decide_eq_false e1] at t1
      refine run_rt ?_
      rw [b_third, env0]
      show ∃ v s, _
      rw [size_first hf h hn rfl, ifF_ex t1]
      exact RtB.ret (callE_ok (evs2_ok rfl rfl) he h3.1.symm (h3.2 n a b st hle)) (fin_dat rfl)
  · rw [b_third, env0, size_first hf h hn rfl]
    refine ifT_exc ?_
    cases q1 : fitsB n d with
    | false =>
      have g1 := f1 n d x st hd
      rw [q1] at g1
      exact or_t (not_ok g1)
    | true =>
      have g1 := f1 n d x st hd
      have g2 := f2 n d x st hx
      rw [q1, Bool.true_and] at hq
      rw [q1] at g1
      rw [hq] at g2
      exact (or_f (not_ok g1)).trans (or_t (not_ok g2))
  · rw [b_third, env0]
    exact size_bad hf h hd rfl
end PD

set_option Elab.async false
set_option linter.all false
set_option maxRecDepth 100000
set_option maxHeartbeats 2000000
namespace PD
open PySem
/-! _law_grid -/
def IsGrid (f : Fn) : Prop := f.ar = 1 ∧ ∀ (n : Nat) (st : Store), 1 ≤ n ∧ n ≤ 3 → f.den [.dat (.int (n : Nat))] st = .ok (.dat (.list (pds n (List.range (3 ^ n))))) st
def pows (n : Nat) : List Nat := (List.range n).map fun j => 3 ^ (n - 1 - j)
theorem dig_pows (n k : Nat) (hn : 1 ≤ n ∧ n ≤ 3) : (pows n).map (fun p => k / p % 3) = dig n k := by
  rcases (by omega : n = 1 ∨ n = 2 ∨ n = 3) with rfl | rfl | rfl <;> rfl
theorem d_fdN (k p : Nat) (h : 0 < p) (h2 : p < 1000) : binop .FloorDiv (.int (k : Nat)) (.int (p : Nat)) = some (.int ((k / p : Nat) : Int)) := by
  rw [d_fd _ _ (by omega) (by omega)]
  rfl
theorem d_mdN (k p : Nat) (h : 0 < p) : binop .Mod (.int (k : Nat)) (.int (p : Nat)) = some (.int ((k % p : Nat) : Int)) := by
  rw [d_md _ _ (by omega)]
  rfl
theorem range0 (n : Nat) : rangeD 0 1 n = (List.range n).map fun (j : Nat) => PyData.int (j : Nat) := by
  rw [range_ints]
  refine List.map_congr_left fun j _ => ?_
  show PyData.int _ = PyData.int _
  rw [Int.zero_add]
theorem snoc_all {α : Type} : ∀ (xs a : List α), xs.foldl (fun acc x => acc ++ [x]) a = a ++ xs
  | [], a => by rw [List.foldl_nil, List.append_nil]
  | x :: r, a => by rw [List.foldl_cons, snoc_all r, List.append_assoc]; rfl
theorem isGrid {nm : Str} (G : List Fn) : IsGrid ⟨nm, 1, runDef G 4 b__law_grid⟩ := by
  refine ⟨rfl, fun n st hn => run_rt ?_⟩
  have env0 : startE 4 [.dat (.int (n : Nat))] = [some (.dat (.int (n : Nat))), none, none, none] := rfl
  have p3 : 3 ^ n ≤ 27 := Nat.le_trans (Nat.pow_le_pow_right (by decide) hn.2) (by decide)
  rw [env0, b__law_grid]
  refine RtB.cons (NxS.set (v := .loc st.length) (st1 := st ++ [.lst []]) rfl ?_)
  refine RtB.cons (NxS.loop (enc := fun (j : Nat) => PyData.int (j : Nat)) (xs := List.range (3 ^ n)) (src := none) (fun c acc env s => acc.length = c ∧ s = st ++ [.lst (pds n acc)] ∧ ∃ o2 o3, env = [some (.dat (.int (n : Nat))), some (.loc st.length), o2, o3]) (fun acc x => acc ++ [x]) [] (st1 := st ++ [.lst []]) ?_ (fun _ _ _ _ _ => rfl) ⟨rfl, rfl, _, _, rfl⟩ ?_ ?_)
  · rw [← range0]
    have e1 : ev G (.ix (.lst (.cons (.lit (.int 3)) (.cons (.lit (.int 9)) (.cons (.lit (.int 27)) .nil)))) (.bin .Sub (.var 0) (.lit (.int 1)))) [some (.dat (.int (n : Nat))), some (.loc st.length), none, none] (st ++ [.lst []]) = .ok (.dat (.int ((3 ^ n : Nat) : Int))) (st ++ [.lst []]) := by
      refine ix_ok (ds := [.int 3, .int 9, .int 27]) (n := (n : Int) - 1) rfl (bin_ok rfl rfl (d_sub _ _)) ?_
      rcases (by omega : n = 1 ∨ n = 2 ∨ n = 3) with rfl | rfl | rfl <;> rfl
    refine range1_ok e1 ?_
    have q1 : ((3 ^ n : Nat) : Int) ≤ 27 := Int.ofNat_le.mpr p3
    have q0 : (0 : Int) ≤ ((3 ^ n : Nat) : Int) := Int.natCast_nonneg _
    unfold tiny
    rw [Bool.and_eq_true, decide_eq_true_eq, decide_eq_true_eq]
    omega
  · rintro c acc x env s hc hx ⟨hl, rfl, o2, o3, rfl⟩
    rw [List.length_range] at hc
    refine ⟨_, rfl, ?_⟩
    have hcomp := comp_map (G := G) (own := [3]) (tg := .one 3) (it := .seq (.slc (.lst (.cons (.lit (.int 9)) (.cons (.lit (.int 3)) (.cons (.lit (.int 1)) .nil)))) (.some (.bin .Sub (.lit (.int 3)) (.var 0))) .none)) (env := [some (.dat (.int (n : Nat))), some (.loc st.length), some (.dat (.int (x : Nat))), o3]) (st := st ++ [.lst (pds n acc)]) (st1 := st ++ [.lst (pds n acc)]) (e := .bin .Mod (.bin .FloorDiv (.var 2) (.var 3)) (.lit (.int 3)))
      (xs := pows n) (enc := fun (a : Nat) => .int (a : Nat)) (out := fun p => .int ((x / p % 3 : Nat) : Int)) (src := none) (by
        have es := slc_from (G := G) (a := .lst (.cons (.lit (.int 9)) (.cons (.lit (.int 3)) (.cons (.lit (.int 1)) .nil)))) (lo := .bin .Sub (.lit (.int 3)) (.var 0)) (env := [some (.dat (.int (n : Nat))), some (.loc st.length), some (.dat (.int (x : Nat))), o3]) (st := st ++ [.lst (pds n acc)]) (ds := []) (d := .list [.int 9, .int 3, .int 1]) (i := 3 - (n : Int)) (r := .list ((pows n).map fun (a : Nat) => .int (a : Nat))) rfl (bin_ok rfl rfl (d_sub _ _)) (by rcases (by omega : n = 1 ∨ n = 2 ∨ n = 3) with rfl | rfl | rfl <;> rfl)
        rw [evI, es]
        rfl) rfl (by unfold pows; rw [List.length_map, List.length_range]; unfold LIM; omega) fun p hp => ⟨_, rfl, fun acc => bin_ok (bin_ok rfl rfl (d_fdN x p (by
          obtain ⟨j, _, rfl⟩ := List.mem_map.mp hp
          exact Nat.pow_pos (by decide)) (by
          obtain ⟨j, _, rfl⟩ := List.mem_map.mp hp
          exact Nat.lt_of_le_of_lt (Nat.pow_le_pow_right (by decide) (show n - 1 - j ≤ 3 by omega)) (by decide)))) rfl (d_mdN _ 3 (by decide))⟩
    have eo : (pows n).map (fun p => PyData.int ((x / p % 3 : Nat) : Int)) = (dig n x).map fun (a : Nat) => PyData.int a := by
      rw [← dig_pows n x hn, List.map_map]
      rfl
    rw [eo] at hcomp
    have a1 := app_ok (G := G) (o := .var 1) (env := [some (.dat (.int (n : Nat))), some (.loc st.length), some (.dat (.int (x : Nat))), o3]) (st1 := st) (d := pd n x) (e := .blt .tuple (.cons (.comp [3] (.one 3) (.seq (.slc (.lst (.cons (.lit (.int 9)) (.cons (.lit (.int 3)) (.cons (.lit (.int 1)) .nil)))) (.some (.bin .Sub (.lit (.int 3)) (.var 0))) .none)) .none (.bin .Mod (.bin .FloorDiv (.var 2) (.var 3)) (.lit (.int 3)))) .nil)) rfl (blt1_ok hcomp rfl rfl) (last_get st _) (by unfold pds; rw [List.length_map]; unfold LIM; omega)
    rw [last_set] at a1
    refine NxB.cons (NxS.exp a1 (NxB.nil ⟨by rw [List.length_append, hl]; rfl, ?_, _, _, rfl⟩))
    unfold pds
    rw [List.map_append]
    rfl
  · rintro e s ⟨hl, rfl, o2, o3, rfl⟩
    rw [snoc_all, List.nil_append]
    exact RtB.ret rfl fin_own
end PD

set_option Elab.async false
set_option linter.all false
set_option maxRecDepth 100000
set_option maxHeartbeats 2000000
namespace PD
open PySem
/-! _law_rowed -/
def dg (n k at_ : Nat) : Nat := (dig n k).getD at_ 0
theorem dg_lt (n k a : Nat) : dg n k a < 3 := by
  unfold dg
  rw [List.getD_eq_getElem?_getD]
  cases h : (dig n k)[a]? with
  | none => decide
  | some d => exact dig_small n k d (List.mem_of_getElem? h)
theorem two_dig : ∀ a b c : Nat, a < 3 → b < 3 → c < 3 → decide ((setLen [(a : Int), (b : Int), (c : Int)] : Int) = 2) = !decide (c = (6 - a - b) % 3) := by
  intro a b c ha hb hc
  have h : ∀ a : Fin 3, ∀ b : Fin 3, ∀ c : Fin 3, decide ((setLen [(a.val : Int), (b.val : Int), (c.val : Int)] : Int) = 2) = !decide (c.val = (6 - a.val - b.val) % 3) := by decide +kernel
  exact h ⟨a, ha⟩ ⟨b, hb⟩ ⟨c, hc⟩
theorem dg_at {n k a : Nat} (h : a < n) : (dig n k)[a]? = some (dg n k a) := by
  unfold dg
  rw [List.getD_eq_getElem?_getD, List.getElem?_eq_getElem (by rw [dig_len]; exact h)]
  rfl
theorem dg_ix {n k a : Nat} (h : a < n) : atD ((dig n k).map fun (a : Nat) => PyData.int a) (a : Nat) = some (.int (dg n k a)) := at_pos (j := a) (by omega) (by omega) (by rw [List.getElem?_map, dg_at h]; rfl)
theorem third_iff {n i j k : Nat} (hk : k < 3 ^ n) : (k = thr n i j) ↔ ∀ a, a < n → dg n k a = (6 - dg n i a - dg n j a) % 3 := by
  have h1 : ∀ a, a < n → dg n (thr n i j) a = (6 - dg n i a - dg n j a) % 3 := fun a ha => by
    have e : (dig n (thr n i j))[a]? = some ((6 - dg n i a - dg n j a) % 3) := by
      rw [dig_thr, List.getElem?_zipWith, dg_at ha, dg_at ha]
    rw [dg_at ha] at e
    exact Option.some.inj e
  constructor
  · rintro rfl
    exact h1
  · intro h
    refine dig_inj hk (thr_lt n i j) (List.ext_getElem? fun a => ?_)
    by_cases ha : a < n
    · rw [dg_at ha, dg_at ha, h a ha, h1 a ha]
    · rw [List.getElem?_eq_none (by rw [dig_len]; omega), List.getElem?_eq_none (by rw [dig_len]; omega)]
def IsRowed (f : Fn) : Prop := f.ar = 3 ∧ ∀ (n i j k : Nat) (st : Store), n ≤ 1000 → k < 3 ^ n → f.den [.dat (pd n i), .dat (pd n j), .dat (pd n k)] st = .ok (.dat (.bool (decide (k = thr n i j)))) st
theorem ix_tup {G : List Fn} {env : Env} {st st1 st2 : Store} {a i : IE} {ds : List PyData} {n : Int} {d : PyData} (h1 : ev G a env st = .ok (.dat (.tuple ds)) st1) (h2 : ev G i env st1 = .ok (.dat (.int n)) st2) (h : atD ds n = some d) : ev G (.ix a i) env st = .ok (.dat d) st2 := by
  rw [ev_ix, h1, bind_ok, h2, bind_ok]
  show ofO st2 (atD ds n) = _
  rw [h]
  rfl
theorem isRowed {nm : Str} (G : List Fn) : IsRowed ⟨nm, 3, runDef G 4 b__law_rowed⟩ := by
  refine ⟨rfl, fun n i j k st hn hk => run_rt ?_⟩
  have env0 : startE 4 [.dat (pd n i), .dat (pd n j), .dat (pd n k)] = [some (.dat (pd n i)), some (.dat (pd n j)), some (.dat (pd n k)), none] := rfl
  rw [env0, b__law_rowed]
  have hlen : bltD .len [pd n i] = some (.int (n : Nat)) := by
    unfold pd
    rw [len_of, List.length_map, dig_len]
  have hcomp := comp_filter (G := G) (own := [3]) (tg := .one 3) (it := .range1 (.blt .len (.cons (.var 0) .nil))) (c := .cmp .Eq (.blt .lenSet (.cons (.lst (.cons (.ix (.var 0) (.var 3)) (.cons (.ix (.var 1) (.var 3)) (.cons (.ix (.var 2) (.var 3)) .nil)))) .nil)) (.lit (.int 2))) (e := .lit (.int 1)) (env := [some (.dat (pd n i)), some (.dat (pd n j)), some (.dat (pd n k)), none]) (st := st) (st1 := st)
    (xs := List.range n) (enc := fun (a : Nat) => PyData.int (a : Nat)) (out := fun _ => .int 1) (p := fun a => !decide (dg n k a = (6 - dg n i a - dg n j a) % 3)) (src := none) (by
      rw [← range0]
      refine range1_ok (n := (n : Int)) (blt1_ok rfl rfl hlen) ?_
      unfold tiny
      rw [Bool.and_eq_true, decide_eq_true_eq, decide_eq_true_eq]
      omega) rfl (by rw [List.length_range]; unfold LIM; omega) fun a ha => by
      have ha2 : a < n := List.mem_range.mp ha
      refine ⟨_, rfl, fun acc => ?_, fun _ acc => rfl⟩
      have el : ∀ s : Store, ev G (.lst (.cons (.ix (.var 0) (.var 3)) (.cons (.ix (.var 1) (.var 3)) (.cons (.ix (.var 2) (.var 3)) .nil)))) [some (.dat (pd n i)), some (.dat (pd n j)), some (.dat (pd n k)), some (.dat (.int (a : Nat)))] s = .ok (.dat (.list [.int (dg n i a), .int (dg n j a), .int (dg n k a)])) s := fun s => by
        rw [ev_lst, evs3_ok (ix_tup rfl rfl (dg_ix ha2)) (ix_tup rfl rfl (dg_ix ha2)) (ix_tup rfl rfl (dg_ix ha2))]
        rfl
      exact cmp_ok (blt1_ok (el _) rfl rfl) rfl (by rw [eq_int, two_dig _ _ _ (dg_lt n i a) (dg_lt n j a) (dg_lt n k a)])
  have e0 : cmpD .Eq (.list (((List.range n).filter fun a => !decide (dg n k a = (6 - dg n i a - dg n j a) % 3)).map fun _ => .int 1)) (.list []) = some (decide (k = thr n i j)) := by
    rw [itr_eq (d := 1) (by rw [itr]; exact itrs_of fun x hx => by obtain ⟨_, _, rfl⟩ := List.mem_map.mp hx; rw [itr]) (e := 1) rfl (by decide) (by decide), same]
    congr 1
    rw [Bool.eq_iff_iff, decide_eq_true_eq, third_iff hk]
    constructor
    · intro h a ha
      cases hf : (List.range n).filter fun a => !decide (dg n k a = (6 - dg n i a - dg n j a) % 3) with
      | nil =>
        have := List.filter_eq_nil_iff.mp hf a (List.mem_range.mpr ha)
        simpa using this
      | cons y r =>
        rw [hf] at h
        cases h
    · intro h
      have hf : ((List.range n).filter fun a => !decide (dg n k a = (6 - dg n i a - dg n j a) % 3)) = [] := List.filter_eq_nil_iff.mpr fun a ha => by
        simpa using h a (List.mem_range.mp ha)
      rw [hf]
      rfl
  exact RtB.ret (cmp_ok hcomp rfl e0) (fin_dat rfl)
end PD

set_option Elab.async false
set_option linter.all false
set_option maxRecDepth 100000
set_option maxHeartbeats 2000000
namespace PD
open PySem
/-! places made digit by digit -/
def opP (g : Nat → Nat → Nat) : Nat → Nat → Nat → Nat
  | 0, _, _ => 0
  | n + 1, j, k => g (j / 3 ^ n % 3) (k / 3 ^ n % 3) % 3 * 3 ^ n + opP g n j k
theorem opP_lt (g : Nat → Nat → Nat) : ∀ n j k, opP g n j k < 3 ^ n
  | 0, _, _ => by simp [opP]
  | n + 1, j, k => by
    have h := opP_lt g n j k
    have h1 : g (j / 3 ^ n % 3) (k / 3 ^ n % 3) % 3 < 3 := Nat.mod_lt _ (by decide)
    rw [opP, Nat.pow_succ]
    generalize g (j / 3 ^ n % 3) (k / 3 ^ n % 3) % 3 = d at *
    have : d * 3 ^ n ≤ 2 * 3 ^ n := Nat.mul_le_mul_right _ (by omega)
    omega
theorem dig_opP (g : Nat → Nat → Nat) : ∀ n j k, dig n (opP g n j k) = List.zipWith (fun a b => g a b % 3) (dig n j) (dig n k)
  | 0, _, _ => rfl
  | n + 1, j, k => by
    rw [dig, opP, dig_add n n _ _ (Nat.le_refl n), dig_opP g n j k, dig, dig, List.zipWith_cons_cons]
    congr 1
    have h := opP_lt g n j k
    rw [Nat.mul_comm, Nat.mul_add_div (Nat.pow_pos (by decide)), Nat.div_eq_of_lt h, Nat.add_zero]
    omega
def addP (n j k : Nat) : Nat := opP (fun a b => a + b) n j k
def dblP (n j : Nat) : Nat := opP (fun a _ => 2 * a) n j j
theorem zipW_same {α β : Type} (g : α → α → β) : ∀ xs : List α, List.zipWith g xs xs = xs.map fun a => g a a
  | [] => rfl
  | x :: r => by rw [List.zipWith_cons_cons, zipW_same g r, List.map_cons]
/-! added, doubled -/
def IsAdded (f : Fn) : Prop := f.ar = 2 ∧ ∀ (n : Nat) (ks : List Nat) (p : Nat) (st : Store), InB n ks → f.den [.dat (sd n ks), .dat (pd n p)] st = .ok (.dat (sd n (sortN (ks.map fun k => addP n k p)))) st
def IsDoubled (f : Fn) : Prop := f.ar = 1 ∧ ∀ (n : Nat) (ks : List Nat) (st : Store), InB n ks → f.den [.dat (sd n ks)] st = .ok (.dat (sd n (sortN (ks.map fun k => dblP n k)))) st
/-- tuple(sorted(..)) of places -/
theorem set_made {G : List Fn} {e : IE} {env : Env} {st : Store} {n : Nat} {js : List Nat} (hn : 1 ≤ n) (hl : js.length ≤ 1000) (hj : ∀ j ∈ js, j < 3 ^ n) (h : ev G e env st = .ok (.dat (.list (pds n js))) st) : ev G (.blt .tuple (.cons (.blt .sorted (.cons e .nil)) .nil)) env st = .ok (.dat (sd n (sortN js))) st :=
  blt1_ok (blt1_ok h rfl (sorted_pds hn hl hj)) rfl rfl
theorem isAdded {nm : Str} (G : List Fn) : IsAdded ⟨nm, 2, runDef G 5 b_added⟩ := by
  refine ⟨rfl, fun n ks p st hb => run_rt ?_⟩
  have env0 : startE 5 [.dat (sd n ks), .dat (pd n p)] = [some (.dat (sd n ks)), some (.dat (pd n p)), none, none, none] := rfl
  rw [env0, b_added]
  have hl := hb.2.2
  have hcomp := comp_map (G := G) (own := [2]) (tg := .one 2) (it := .seq (.var 0)) (env := [some (.dat (sd n ks)), some (.dat (pd n p)), none, none, none]) (st := st) (st1 := st) (e := .blt .tuple (.cons (.comp [3, 4] (.two 3 4) (.zip (.var 2) (.var 1)) .none (.bin .Mod (.bin .Add (.var 3) (.var 4)) (.lit (.int 3)))) .nil))
    (xs := ks) (enc := pd n) (out := fun k => pd n (addP n k p)) (src := none) rfl rfl (by unfold LIM; omega) fun k _ => ⟨_, rfl, fun acc => by
      have h2 := comp_map (G := G) (own := [3, 4]) (tg := .two 3 4) (it := .zip (.var 2) (.var 1)) (env := [some (.dat (sd n ks)), some (.dat (pd n p)), some (.dat (pd n k)), none, none]) (st := st ++ [.lst acc]) (st1 := st ++ [.lst acc]) (e := .bin .Mod (.bin .Add (.var 3) (.var 4)) (.lit (.int 3)))
        (xs := (dig n k).zip (dig n p)) (enc := fun q => .tuple [.int (q.1 : Nat), .int (q.2 : Nat)]) (out := fun q => .int (((q.1 + q.2) % 3 : Nat) : Int)) (src := none) (by rw [← zip_ints]; exact zip_ok rfl rfl) rfl (by rw [List.length_zip, dig_len, dig_len, Nat.min_self]; unfold LIM; have := hb.1; omega)
        fun q _ => ⟨_, rfl, fun acc => bin_ok (bin_ok rfl rfl (d_ad _ _)) rfl (d_mdN (q.1 + q.2) 3 (by decide))⟩
      have e : ((dig n k).zip (dig n p)).map (fun q => PyData.int (((q.1 + q.2) % 3 : Nat) : Int)) = (dig n (addP n k p)).map fun (a : Nat) => PyData.int a := by
        unfold addP
        rw [dig_opP, ← List.map_uncurry_zip_eq_zipWith, List.map_map]
        rfl
      rw [e] at h2
      exact blt1_ok h2 rfl rfl⟩
  have e : ks.map (fun k => pd n (addP n k p)) = pds n (ks.map fun k => addP n k p) := by
    unfold pds
    rw [List.map_map]
    rfl
  rw [e] at hcomp
  exact RtB.ret (set_made hb.1.1 (by rw [List.length_map]; omega) (fun j hj => by
    obtain ⟨k, _, rfl⟩ := List.mem_map.mp hj
    exact opP_lt _ _ _ _) hcomp) (fin_dat rfl)
theorem isDoubled {nm : Str} (G : List Fn) : IsDoubled ⟨nm, 1, runDef G 3 b_doubled⟩ := by
  refine ⟨rfl, fun n ks st hb => run_rt ?_⟩
  have env0 : startE 3 [.dat (sd n ks)] = [some (.dat (sd n ks)), none, none] := rfl
  rw [env0, b_doubled]
  have hl := hb.2.2
  have hcomp := comp_map (G := G) (own := [1]) (tg := .one 1) (it := .seq (.var 0)) (env := [some (.dat (sd n ks)), none, none]) (st := st) (st1 := st) (e := .blt .tuple (.cons (.comp [2] (.one 2) (.seq (.var 1)) .none (.bin .Mod (.bin .Mult (.lit (.int 2)) (.var 2)) (.lit (.int 3)))) .nil))
    (xs := ks) (enc := pd n) (out := fun k => pd n (dblP n k)) (src := none) rfl rfl (by unfold LIM; omega) fun k _ => ⟨_, rfl, fun acc => by
      have h2 := comp_map (G := G) (own := [2]) (tg := .one 2) (it := .seq (.var 1)) (env := [some (.dat (sd n ks)), some (.dat (pd n k)), none]) (st := st ++ [.lst acc]) (st1 := st ++ [.lst acc]) (e := .bin .Mod (.bin .Mult (.lit (.int 2)) (.var 2)) (.lit (.int 3)))
        (xs := dig n k) (enc := fun (a : Nat) => .int (a : Nat)) (out := fun a => .int ((2 * a % 3 : Nat) : Int)) (src := none) rfl rfl (by rw [dig_len]; unfold LIM; have := hb.1; omega)
        fun q _ => ⟨_, rfl, fun acc => bin_ok (bin_ok rfl rfl (d_mu _ _ (.inl (by decide +kernel)))) rfl (d_mdN (2 * q) 3 (by decide))⟩
      have e : (dig n k).map (fun a => PyData.int ((2 * a % 3 : Nat) : Int)) = (dig n (dblP n k)).map fun (a : Nat) => PyData.int a := by
        unfold dblP
        rw [dig_opP, zipW_same, List.map_map]
        rfl
      rw [e] at h2
      exact blt1_ok h2 rfl rfl⟩
  have e : ks.map (fun k => pd n (dblP n k)) = pds n (ks.map fun k => dblP n k) := by
    unfold pds
    rw [List.map_map]
    rfl
  rw [e] at hcomp
  exact RtB.ret (set_made hb.1.1 (by rw [List.length_map]; omega) (fun j hj => by
    obtain ⟨k, _, rfl⟩ := List.mem_map.mp hj
    exact opP_lt _ _ _ _) hcomp) (fin_dat rfl)
end PD

set_option Elab.async false
set_option linter.all false
set_option maxRecDepth 100000
set_option maxHeartbeats 2000000
namespace PD
open PySem
/-! put -/
def ti (xs : List Nat) : PyData := .tuple (xs.map fun (a : Nat) => PyData.int a)
def IsPut (f : Fn) : Prop := f.ar = 3 ∧ ∀ (xs : List Nat) (j v : Nat) (st : Store), j < xs.length → xs.length ≤ 1000 → f.den [.dat (ti xs), .dat (.int (j : Nat)), .dat (.int (v : Nat))] st = .ok (.dat (ti (xs.set j v))) st
theorem cut_head (ds : List PyData) (i : Nat) (h : i ≤ ds.length) : cutD ds none (some (i : Nat)) = ds.take i := by
  unfold cutD
  have h1 : HT.sIx ds.length ds.length (some (i : Nat)) = i := by
    rw [HT.sIx_nat]
    omega
  have h2 : HT.sIx ds.length 0 none = 0 := rfl
  rw [h1, h2, List.drop_zero, Nat.sub_zero]
theorem slc_to {G : List Fn} {a hi : IE} {env : Env} {st : Store} {d : PyData} {i : Int} {r : PyData} (h1 : ev G a env st = .ok (.dat d) st) (h2 : ev G hi env st = .ok (.dat (.int i)) st) (h : slcD d none (some i) = some r) : ev G (.slc a .none (.some hi)) env st = .ok (.dat r) st := by
  rw [ev, h1, bind_ok]
  show (evo G (.some hi) env st).bind _ = _
  rw [evo, h2, bind_ok]
  show ofO st (slcD d none (some i)) = _
  rw [h]
  rfl
theorem isPut {nm : Str} (G : List Fn) : IsPut ⟨nm, 3, runDef G 3 b_put⟩ := by
  refine ⟨rfl, fun xs j v st hj hl => run_rt ?_⟩
  have env0 : startE 3 [.dat (ti xs), .dat (.int (j : Nat)), .dat (.int (v : Nat))] = [some (.dat (ti xs)), some (.dat (.int (j : Nat))), some (.dat (.int (v : Nat)))] := rfl
  rw [env0, b_put]
  have lm : (xs.map fun (a : Nat) => PyData.int a).length = xs.length := List.length_map ..
  have s1 : slcD (ti xs) none (some (j : Nat)) = some (ti (xs.take j)) := by
    show some (PyData.tuple (cutD _ none (some (j : Nat)))) = _
    rw [cut_head _ j (by rw [lm]; omega), ← List.map_take]
    rfl
  have s2 : slcD (ti xs) (some ((j : Int) + 1)) none = some (ti (xs.drop (j + 1))) := by
    show some (PyData.tuple (cutD _ (some (((j + 1 : Nat)) : Int)) none)) = _
    rw [cut_tail _ (j + 1) (by rw [lm]; omega), ← List.map_drop]
    rfl
  have e1 : (xs.take j).map (fun (a : Nat) => PyData.int a) ++ [.int (v : Nat)] ++ (xs.drop (j + 1)).map (fun (a : Nat) => PyData.int a) = (xs.set j v).map fun (a : Nat) => PyData.int a := by
    rw [List.set_eq_take_append_cons_drop, if_pos hj, List.map_append, List.map_cons, List.append_assoc]
    rfl
  have a1 : binop .Add (ti (xs.take j)) (.tuple [.int (v : Nat)]) = some (.tuple ((xs.take j).map (fun (a : Nat) => PyData.int a) ++ [.int (v : Nat)])) := add_tup _ _ (by
    rw [List.length_map, List.length_take]
    show min j xs.length + 1 ≤ 1000000
    omega)
  have a2 : binop .Add (.tuple ((xs.take j).map (fun (a : Nat) => PyData.int a) ++ [.int (v : Nat)])) (ti (xs.drop (j + 1))) = some (ti (xs.set j v)) := by
    unfold ti
    rw [add_tup _ _ (by
      rw [List.length_append, List.length_map, List.length_take, List.length_map, List.length_drop]
      show min j xs.length + 1 + (xs.length - (j + 1)) ≤ 1000000
      omega), e1]
  refine RtB.ret (bin_ok (bin_ok (slc_to rfl rfl s1) (by rw [ev_tup]; rfl) a1) (slc_from (ds := []) rfl (bin_ok rfl rfl (d_ad _ _)) s2) a2) (fin_dat rfl)
end PD

set_option Elab.async false
set_option linter.all false
set_option maxRecDepth 100000
set_option maxHeartbeats 2000000
namespace PD
open PySem
theorem dig_undig : ∀ (n : Nat) (xs : List Nat), xs.length = n → (∀ a ∈ xs, a < 3) → dig n (undig xs) = xs
  | 0, [], _, _ => rfl
  | 0, _ :: _, h, _ => by simp at h
  | n + 1, [], h, _ => by simp at h
  | n + 1, x :: r, h, hx => by
    have hr : r.length = n := by simpa using h
    have h1 := undig_lt r fun a ha => hx a (List.mem_cons_of_mem _ ha)
    have h2 := hx x List.mem_cons_self
    rw [hr] at h1
    rw [undig, hr, dig, dig_add n n _ _ (Nat.le_refl n), dig_undig n r hr fun a ha => hx a (List.mem_cons_of_mem _ ha)]
    congr 1
    rw [Nat.mul_comm, Nat.mul_add_div (Nat.pow_pos (by decide)), Nat.div_eq_of_lt h1, Nat.add_zero]
    omega
theorem pd_undig {n : Nat} {xs : List Nat} (h : xs.length = n) (hx : ∀ a ∈ xs, a < 3) : ti xs = pd n (undig xs) := by
  unfold pd ti
  rw [dig_undig n xs h hx]
theorem undig_in {n : Nat} {xs : List Nat} (h : xs.length = n) (hx : ∀ a ∈ xs, a < 3) : undig xs < 3 ^ n := by
  have := undig_lt xs hx
  rw [h] at this
  exact this
def excP (n i j k : Nat) : Nat := undig (((dig n k).set i (dg n k j)).set j (dg n k i))
def posP (n i j k : Nat) : Nat := undig ((dig n k).set j ((dg n k j + dg n k i) % 3))
theorem set_small {xs : List Nat} {i v : Nat} (h : ∀ a ∈ xs, a < 3) (hv : v < 3) : ∀ a ∈ xs.set i v, a < 3 := fun a ha => by
  rcases List.mem_or_eq_of_mem_set ha with ha | rfl
  · exact h a ha
  · exact hv
theorem pd_ti (n k : Nat) : pd n k = ti (dig n k) := rfl
def IsMoved (mv : Nat → Nat → Nat → Nat → Nat) (f : Fn) : Prop := f.ar = 3 ∧ ∀ (n : Nat) (ks : List Nat) (i j : Nat) (st : Store), InB n ks → i < n → j < n → f.den [.dat (sd n ks), .dat (.int (i : Nat)), .dat (.int (j : Nat))] st = .ok (.dat (sd n (sortN (ks.map fun k => mv n i j k)))) st
theorem isExchanged {nm : Str} {G : List Fn} {q : Nat} {f : Fn} (hf : G[q]? = some f) (h : IsPut f) : IsMoved excP ⟨nm, 3, runDef G 4 (b_exchanged q)⟩ := by
  refine ⟨rfl, fun n ks i j st hb hi hj => run_rt ?_⟩
  have env0 : startE 4 [.dat (sd n ks), .dat (.int (i : Nat)), .dat (.int (j : Nat))] = [some (.dat (sd n ks)), some (.dat (.int (i : Nat))), some (.dat (.int (j : Nat))), none] := rfl
  rw [env0, b_exchanged]
  have hl := hb.2.2
  have hn := hb.1
  have hcomp := comp_map (G := G) (own := [3]) (tg := .one 3) (it := .seq (.var 0)) (env := [some (.dat (sd n ks)), some (.dat (.int (i : Nat))), some (.dat (.int (j : Nat))), none]) (st := st) (st1 := st) (e := .call q (.cons (.call q (.cons (.var 3) (.cons (.var 1) (.cons (.ix (.var 3) (.var 2)) .nil)))) (.cons (.var 2) (.cons (.ix (.var 3) (.var 1)) .nil))))
    (xs := ks) (enc := pd n) (out := fun k => pd n (excP n i j k)) (src := none) rfl rfl (by unfold LIM; omega) fun k _ => ⟨_, rfl, fun acc => by
      have e2 : pd n (excP n i j k) = ti (((dig n k).set i (dg n k j)).set j (dg n k i)) := (pd_undig (by rw [List.length_set, List.length_set, dig_len]) (set_small (set_small (dig_small n k) (dg_lt n k j)) (dg_lt n k i))).symm
      rw [e2]
      refine callE_ok (evs3_ok (callE_ok (evs3_ok rfl rfl (ix_tup rfl rfl (dg_ix hj))) hf h.1.symm (h.2 (dig n k) i (dg n k j) _ (by rw [dig_len]; exact hi) (by rw [dig_len]; omega))) rfl (ix_tup rfl rfl (dg_ix hi))) hf h.1.symm (h.2 _ j (dg n k i) _ (by rw [List.length_set, dig_len]; exact hj) (by rw [List.length_set, dig_len]; omega))⟩
  have e : ks.map (fun k => pd n (excP n i j k)) = pds n (ks.map fun k => excP n i j k) := by
    unfold pds
    rw [List.map_map]
    rfl
  rw [e] at hcomp
  exact RtB.ret (set_made hn.1 (by rw [List.length_map]; omega) (fun a ha => by
    obtain ⟨k, _, rfl⟩ := List.mem_map.mp ha
    exact undig_in (by rw [List.length_set, List.length_set, dig_len]) (set_small (set_small (dig_small n k) (dg_lt n k j)) (dg_lt n k i))) hcomp) (fin_dat rfl)
theorem isPosAdded {nm : Str} {G : List Fn} {q : Nat} {f : Fn} (hf : G[q]? = some f) (h : IsPut f) : IsMoved posP ⟨nm, 3, runDef G 4 (b_position_added q)⟩ := by
  refine ⟨rfl, fun n ks i j st hb hi hj => run_rt ?_⟩
  have env0 : startE 4 [.dat (sd n ks), .dat (.int (i : Nat)), .dat (.int (j : Nat))] = [some (.dat (sd n ks)), some (.dat (.int (i : Nat))), some (.dat (.int (j : Nat))), none] := rfl
  rw [env0, b_position_added]
  have hl := hb.2.2
  have hn := hb.1
  have m3 : ∀ k, (dg n k j + dg n k i) % 3 < 3 := fun k => Nat.mod_lt _ (by decide)
  have hcomp := comp_map (G := G) (own := [3]) (tg := .one 3) (it := .seq (.var 0)) (env := [some (.dat (sd n ks)), some (.dat (.int (i : Nat))), some (.dat (.int (j : Nat))), none]) (st := st) (st1 := st) (e := .call q (.cons (.var 3) (.cons (.var 2) (.cons (.bin .Mod (.bin .Add (.ix (.var 3) (.var 2)) (.ix (.var 3) (.var 1))) (.lit (.int 3))) .nil))))
    (xs := ks) (enc := pd n) (out := fun k => pd n (posP n i j k)) (src := none) rfl rfl (by unfold LIM; omega) fun k _ => ⟨_, rfl, fun acc => by
      have e2 : pd n (posP n i j k) = ti ((dig n k).set j ((dg n k j + dg n k i) % 3)) := (pd_undig (by rw [List.length_set, dig_len]) (set_small (dig_small n k) (m3 k))).symm
      rw [e2]
      exact callE_ok (evs3_ok rfl rfl (bin_ok (bin_ok (ix_tup rfl rfl (dg_ix hj)) (ix_tup rfl rfl (dg_ix hi)) (d_ad _ _)) rfl (d_mdN (dg n k j + dg n k i) 3 (by decide)))) hf h.1.symm (h.2 (dig n k) j _ _ (by rw [dig_len]; exact hj) (by rw [dig_len]; omega))⟩
  have e : ks.map (fun k => pd n (posP n i j k)) = pds n (ks.map fun k => posP n i j k) := by
    unfold pds
    rw [List.map_map]
    rfl
  rw [e] at hcomp
  exact RtB.ret (set_made hn.1 (by rw [List.length_map]; omega) (fun a ha => by
    obtain ⟨k, _, rfl⟩ := List.mem_map.mp ha
    exact undig_in (by rw [List.length_set, dig_len]) (set_small (dig_small n k) (m3 k))) hcomp) (fin_dat rfl)
end PD

set_option Elab.async false
set_option linter.all false
set_option maxRecDepth 100000
set_option maxHeartbeats 2000000
namespace PD
open PySem
/-- a def whose first two arguments are a size and a set, and that begins with their check -/
theorem set_first' {G : List Fn} {i c0 c2 : Nat} {g : Fn} {b : IB} {n : Nat} {ks : List Nat} {env : Env} {st : Store} (hg : G[i]? = some g) (k : Is2 c0 c2 (fun _ _ => .inl .none) g) (hs : SetOk n ks) (h0 : ev G (.var 0) env st = .ok (.dat (.int (n : Nat))) st) (h1 : ev G (.var 1) env st = .ok (.dat (sd n ks)) st) : exB G (.cons (.exp (.call i (.cons (.var 0) (.cons (.var 1) .nil)))) b) env st = exB G b env st :=
  seq_nx (exp_ok (callE_ok (evs2_ok h0 h1) hg k.1.symm (k.2.1 n ks st hs)))
theorem set_bad' {G : List Fn} {i c0 c2 : Nat} {g : Fn} {b : IB} {n : Nat} {d : PyData} {env : Env} {st : Store} (hg : G[i]? = some g) (k : Is2 c0 c2 (fun _ _ => .inl .none) g) (hn : 1 ≤ n ∧ n ≤ 3) (hd : NoSet n d) (h0 : ev G (.var 0) env st = .ok (.dat (.int (n : Nat))) st) (h1 : ev G (.var 1) env st = .ok (.dat d) st) : exB G (.cons (.exp (.call i (.cons (.var 0) (.cons (.var 1) .nil)))) b) env st = .exc c2 st :=
  exp_exc (callE_exc (evs2_ok h0 h1) hg k.1.symm (k.2.2.1 n d st hn hd))
theorem size_bad' {G : List Fn} {i c0 c2 : Nat} {g : Fn} {b : IB} {d e : PyData} {env : Env} {st : Store} (hg : G[i]? = some g) (k : Is2 c0 c2 (fun _ _ => .inl .none) g) (hd : isInt d 1 3 = false) (h0 : ev G (.var 0) env st = .ok (.dat d) st) (h1 : ev G (.var 1) env st = .ok (.dat e) st) : exB G (.cons (.exp (.call i (.cons (.var 0) (.cons (.var 1) .nil)))) b) env st = .exc c0 st :=
  exp_exc (callE_exc (evs2_ok h0 h1) hg k.1.symm (k.2.2.2 d e st hd))
def IsAddPlace (c0 c1 c2 : Nat) (f : Fn) : Prop := f.ar = 3 ∧ (∀ (n : Nat) (ks : List Nat) (p : Nat) (st : Store), SetOk n ks → p < 3 ^ n → f.den [.dat (.int (n : Nat)), .dat (sd n ks), .dat (pd n p)] st = .ok (.dat (sd n (sortN (ks.map fun k => addP n k p)))) st) ∧ (∀ (n : Nat) (ks : List Nat) (d : PyData) (st : Store), SetOk n ks → Short d → fitsB n d = false → f.den [.dat (.int (n : Nat)), .dat (sd n ks), .dat d] st = .exc c1 st) ∧ (∀ (n : Nat) (d e : PyData) (st : Store), 1 ≤ n ∧ n ≤ 3 → NoSet n d → f.den [.dat (.int (n : Nat)), .dat d, .dat e] st = .exc c2 st) ∧ ∀ (d e x : PyData) (st : Store), isInt d 1 3 = false → f.den [.dat d, .dat e, .dat x] st = .exc c0 st
theorem isAddPlace {nm : Str} {G : List Fn} {a i j c0 c1 c2 : Nat} {f g e : Fn} (hf : G[a]? = some f) (h : IsAdded f) (hg : G[i]? = some g) (k : Is2 c0 c2 (fun _ _ => .inl .none) g) (he : G[j]? = some e) (h3 : IsFits e) : IsAddPlace c0 c1 c2 ⟨nm, 3, runDef G 3 (b_add_place a i j c1)⟩ := by
  refine ⟨rfl, fun n ks p st hs hp => run_rt ?_, fun n ks d st hs hd hq => run_exc ?_, fun n d x st hn hd => run_exc ?_, fun d x y st hd => run_exc ?_⟩
  · rw [b_add_place]
    show ∃ v s, _
    rw [set_first' hg k hs rfl rfl]
    have t1 := callE_ok (G := G) (evs2_ok (a := .var 0) (b := .var 2) (env := startE 3 [.dat (.int (n : Nat)), .dat (sd n ks), .dat (pd n p)]) (st := st) rfl rfl) he h3.1.symm (h3.2 n (pd n p) st (pd_short n p (by have := hs.1.1; omega)))
    rw [pd_fits] at t1
    rw [ifF_ex (not_ok t1)]
    exact RtB.ret (callE_ok (evs2_ok rfl rfl) hf h.1.symm (h.2 n ks p st hs.1)) (fin_dat rfl)
  · rw [b_add_place, set_first' hg k hs rfl rfl]
    have t1 := callE_ok (G := G) (evs2_ok (a := .var 0) (b := .var 2) (env := startE 3 [.dat (.int (n : Nat)), .dat (sd n ks), .dat d]) (st := st) rfl rfl) he h3.1.symm (h3.2 n d st hd)
    rw [hq] at t1
    exact ifT_exc (not_ok t1)
  · rw [b_add_place]
    exact set_bad' hg k hn hd rfl rfl
  · rw [b_add_place]
    exact size_bad' (e := x) hg k hd rfl rfl
theorem isDouble {nm : Str} {G : List Fn} {i a c0 c2 : Nat} {f g : Fn} (hg : G[i]? = some g) (k : Is2 c0 c2 (fun _ _ => .inl .none) g) (hf : G[a]? = some f) (h : IsDoubled f) : Is2 c0 c2 (fun n ks => .inl (sd n (sortN (ks.map fun k => dblP n k)))) ⟨nm, 2, runDef G 2 (b_double i a)⟩ := by
  rw [b_double]
  exact set_of hg k fun n ks st hs => RtB.ret (callE_ok (evs1_ok rfl) hf h.1.symm (h.2 n ks st hs.1)) (fin_dat rfl)
end PD

set_option Elab.async false
set_option linter.all false
set_option maxRecDepth 100000
set_option maxHeartbeats 2000000
namespace PD
open PySem
/-! check_positions -/
/-- two positions of places of this size -/
def posB (n : Nat) (x y : PyData) : Bool := isInt x 0 ((n : Int) - 1) && isInt y 0 ((n : Int) - 1) && !same x y
def IsCheckPos (c3 : Nat) (f : Fn) : Prop := f.ar = 3 ∧ ∀ (n : Nat) (x y : PyData) (st : Store), f.den [.dat (.int (n : Nat)), .dat x, .dat y] st = if posB n x y then .ok (.dat .none) st else .exc c3 st
theorem isInt_itr {x : PyData} {a b : Int} (h : isInt x a b = true) : itr 0 x = true := by
  cases x with
  | int v => rw [itr]
  | _ => cases h
theorem isCheckPos {nm : Str} {G : List Fn} {i c3 : Nat} {f : Fn} (hf : G[i]? = some f) (h : IsInteger f) : IsCheckPos c3 ⟨nm, 3, runDef G 3 (b_check_positions i c3)⟩ := by
  refine ⟨rfl, fun n x y st => ?_⟩
  have env0 : startE 3 [.dat (.int (n : Nat)), .dat x, .dat y] = [some (.dat (.int (n : Nat))), some (.dat x), some (.dat y)] := rfl
  have g1 : ev G (.call i (.cons (.var 1) (.cons (.lit (.int 0)) (.cons (.bin .Sub (.var 0) (.lit (.int 1))) .nil)))) [some (.dat (.int (n : Nat))), some (.dat x), some (.dat y)] st = .ok (.dat (.bool (isInt x 0 ((n : Int) - 1)))) st := callE_ok (evs3_ok rfl rfl (bin_ok rfl rfl (d_sub _ _))) hf h.1.symm (h.2 x 0 _ st)
  have g2 : ev G (.call i (.cons (.var 2) (.cons (.lit (.int 0)) (.cons (.bin .Sub (.var 0) (.lit (.int 1))) .nil)))) [some (.dat (.int (n : Nat))), some (.dat x), some (.dat y)] st = .ok (.dat (.bool (isInt y 0 ((n : Int) - 1)))) st := callE_ok (evs3_ok rfl rfl (bin_ok rfl rfl (d_sub _ _))) hf h.1.symm (h.2 y 0 _ st)
  have t : ev G (.or (.not (.call i (.cons (.var 1) (.cons (.lit (.int 0)) (.cons (.bin .Sub (.var 0) (.lit (.int 1))) .nil))))) (.or (.not (.call i (.cons (.var 2) (.cons (.lit (.int 0)) (.cons (.bin .Sub (.var 0) (.lit (.int 1))) .nil))))) (.one (.cmp .Eq (.var 1) (.var 2))))) [some (.dat (.int (n : Nat))), some (.dat x), some (.dat y)] st = .ok (.dat (.bool (!posB n x y))) st := by
    unfold posB
    cases q1 : isInt x 0 ((n : Int) - 1) with
    | false =>
      rw [q1] at g1
      exact or_t (not_ok g1)
    | true =>
      rw [q1] at g1
      refine (or_f (not_ok g1)).trans ?_
      cases q2 : isInt y 0 ((n : Int) - 1) with
      | false =>
        rw [q2] at g2
        exact or_t (not_ok g2)
      | true =>
        rw [q2] at g2
        refine (or_f (not_ok g2)).trans ?_
        rw [one_is, Bool.true_and, Bool.true_and, Bool.not_not]
        exact cmp_ok rfl rfl (itr_eq (isInt_itr q1) (isInt_itr q2) (by decide) (by decide))
  cases hb : posB n x y with
  | true =>
    rw [hb] at t
    rw [if_pos rfl]
    refine run_nx (env := [some (.dat (.int (n : Nat))), some (.dat x), some (.dat y)]) ?_
    rw [env0, b_check_positions]
    exact (ifF_ex t).trans rfl
  | false =>
    rw [hb] at t
    rw [if_neg Bool.false_ne_true]
    refine run_exc ?_
    rw [env0, b_check_positions]
    exact ifT_exc t
/-! exchange, add_position -/
def IsMove2 (c0 c2 c3 : Nat) (mv : Nat → Nat → Nat → Nat → Nat) (f : Fn) : Prop := f.ar = 4 ∧ (∀ (n : Nat) (ks : List Nat) (i j : Nat) (st : Store), SetOk n ks → i < n → j < n → i ≠ j → f.den [.dat (.int (n : Nat)), .dat (sd n ks), .dat (.int (i : Nat)), .dat (.int (j : Nat))] st = .ok (.dat (sd n (sortN (ks.map fun k => mv n i j k)))) st) ∧ (∀ (n : Nat) (ks : List Nat) (x y : PyData) (st : Store), SetOk n ks → posB n x y = false → f.den [.dat (.int (n : Nat)), .dat (sd n ks), .dat x, .dat y] st = .exc c3 st) ∧ (∀ (n : Nat) (d x y : PyData) (st : Store), 1 ≤ n ∧ n ≤ 3 → NoSet n d → f.den [.dat (.int (n : Nat)), .dat d, .dat x, .dat y] st = .exc c2 st) ∧ ∀ (d e x y : PyData) (st : Store), isInt d 1 3 = false → f.den [.dat d, .dat e, .dat x, .dat y] st = .exc c0 st
theorem isMove2 {nm : Str} {G : List Fn} {a i p c0 c2 c3 : Nat} {f g e : Fn} {mv : Nat → Nat → Nat → Nat → Nat} (hf : G[a]? = some f) (h : IsMoved mv f) (hg : G[i]? = some g) (k : Is2 c0 c2 (fun _ _ => .inl .none) g) (he : G[p]? = some e) (h3 : IsCheckPos c3 e) : IsMove2 c0 c2 c3 mv ⟨nm, 4, runDef G 4 (.cons (.exp (.call i (.cons (.var 0) (.cons (.var 1) .nil)))) (.cons (.exp (.call p (.cons (.var 0) (.cons (.var 2) (.cons (.var 3) .nil))))) (.cons (.ret (.call a (.cons (.var 1) (.cons (.var 2) (.cons (.var 3) .nil))))) .nil)))⟩ := by
  refine ⟨rfl, fun n ks x y st hs hx hy hxy => run_rt ?_, fun n ks x y st hs hq => run_exc ?_, fun n d x y st hn hd => run_exc ?_, fun d z x y st hd => run_exc ?_⟩
  · show ∃ v s, _
    rw [set_first' hg k hs rfl rfl]
    have pb : posB n (.int (x : Nat)) (.int (y : Nat)) = true := by
      unfold posB
      rw [same, isInt, isInt]
      simp only [Bool.and_eq_true, decide_eq_true_eq, Bool.not_eq_true', decide_eq_false_iff_not]
      omega
    have q := h3.2 n (.int (x : Nat)) (.int (y : Nat)) st
    rw [pb, if_pos rfl] at q
    rw [seq_nx (exp_ok (callE_ok (evs3_ok rfl rfl rfl) he h3.1.symm q))]
    exact RtB.ret (callE_ok (evs3_ok rfl rfl rfl) hf h.1.symm (h.2 n ks x y st hs.1 hx hy)) (fin_dat rfl)
  · rw [set_first' hg k hs rfl rfl]
    have q := h3.2 n x y st
    rw [hq, if_neg Bool.false_ne_true] at q
    exact exp_exc (callE_exc (evs3_ok rfl rfl rfl) he h3.1.symm q)
  · exact set_bad' hg k hn hd rfl rfl
  · exact size_bad' (e := z) hg k hd rfl rfl
theorem isExchange {nm : Str} {G : List Fn} {a i p c0 c2 c3 : Nat} {f g e : Fn} (hf : G[a]? = some f) (h : IsMoved excP f) (hg : G[i]? = some g) (k : Is2 c0 c2 (fun _ _ => .inl .none) g) (he : G[p]? = some e) (h3 : IsCheckPos c3 e) : IsMove2 c0 c2 c3 excP ⟨nm, 4, runDef G 4 (b_exchange p i a)⟩ := isMove2 hf h hg k he h3
theorem isAddPosition {nm : Str} {G : List Fn} {a i p c0 c2 c3 : Nat} {f g e : Fn} (hf : G[a]? = some f) (h : IsMoved posP f) (hg : G[i]? = some g) (k : Is2 c0 c2 (fun _ _ => .inl .none) g) (he : G[p]? = some e) (h3 : IsCheckPos c3 e) : IsMove2 c0 c2 c3 posP ⟨nm, 4, runDef G 4 (b_add_position p i a)⟩ := isMove2 hf h hg k he h3
end PD

set_option Elab.async false
set_option linter.all false
set_option maxRecDepth 100000
set_option maxHeartbeats 2000000
namespace PD
open PySem
theorem chain_ok {G : List Fn} {o1 o2 : CmpOp} {a b c : IE} {env : Env} {st : Store} {x y z : PyData} {p q : Bool} (h1 : ev G a env st = .ok (.dat x) st) (h2 : ev G b env st = .ok (.dat y) st) (h3 : ev G c env st = .ok (.dat z) st) (hp : cmpD o1 x y = some p) (hq : cmpD o2 y z = some q) : ev G (.chain o1 o2 a b c) env st = .ok (.dat (.bool (p && q))) st := by
  rw [ev, h1, bind_ok, h2, bind_ok, cmp_dat hp, bind_ok]
  cases p with
  | false => rfl
  | true =>
    show (ev G c env st).bind _ = _
    rw [h3, bind_ok, cmp_dat hq]
    rfl
def lineB (n a b c : Nat) : Bool := Nat.blt a b && Nat.blt b c && Nat.beq (thr n a b) c
def OddLine (n : Nat) : PyData → Prop
  | .tuple xs => xs.length ≤ 1000 ∧ (∀ x ∈ xs, Short x) ∧ (decide (xs.length = 3) && xs.all fun x => fitsB n x) = false
  | _ => True
def IsIsLine (c0 : Nat) (f : Fn) : Prop := f.ar = 2 ∧ (∀ (n a b c : Nat) (st : Store), 1 ≤ n ∧ n ≤ 3 → a < 3 ^ n → b < 3 ^ n → c < 3 ^ n → f.den [.dat (.int (n : Nat)), .dat (.tuple [pd n a, pd n b, pd n c])] st = .ok (.dat (.bool (lineB n a b c))) st) ∧ (∀ (n : Nat) (d : PyData) (st : Store), 1 ≤ n ∧ n ≤ 3 → OddLine n d → f.den [.dat (.int (n : Nat)), .dat d] st = .ok (.dat (.bool false)) st) ∧ ∀ (d e : PyData) (st : Store), isInt d 1 3 = false → f.den [.dat d, .dat e] st = .exc c0 st
theorem isIsLine {nm : Str} {G : List Fn} {i j k c0 : Nat} {f g e : Fn} (hf : G[i]? = some f) (h : IsCheckSize c0 f) (hg : G[j]? = some g) (h2 : IsFits g) (he : G[k]? = some e) (h3 : IsThirdOf e) : IsIsLine c0 ⟨nm, 2, runDef G 3 (b_is_line i j k)⟩ := by
  have env0 : ∀ x y : PyData, startE 3 [.dat x, .dat y] = [some (.dat x), some (.dat y), none] := fun _ _ => rfl
  have one : ∀ (n : Nat) (xs : List PyData) (st : Store), xs.length ≤ 1000 → (∀ x ∈ xs, Short x) → ev G (.or (.not (.isT (.var 1) .tuple)) (.or (.cmp .NotEq (.blt .len (.cons (.var 1) .nil)) (.lit (.int 3))) (.one (.not (.blt .all (.cons (.comp [2] (.one 2) (.seq (.var 1)) .none (.call j (.cons (.var 0) (.cons (.var 2) .nil)))) .nil)))))) [some (.dat (.int (n : Nat))), some (.dat (.tuple xs)), none] st = .ok (.dat (.bool (!decide ((xs.length : Int) = 3) || !(xs.all fun x => fitsB n x)))) st := fun n xs st hl hx => by
    refine (or_f (st1 := st) rfl).trans ?_
    refine or_ok (cmp_ok (blt1_ok rfl rfl len_of) rfl (ne_int _ _)) fun _ => ?_
    rw [one_is]
    refine not_ok (blt1_ok (comp_map (enc := fun d => d) (xs := xs) (out := fun x => .bool (fitsB n x)) (src := none) ?_ rfl (Nat.le_trans hl (by decide)) fun x hx1 => ⟨_, rfl, fun acc => ?_⟩) rfl (all_bools _ _))
    · rw [List.map_id']
      rfl
    · exact callE_ok (evs2_ok rfl rfl) hg h2.1.symm (h2.2 n x _ (hx x hx1))
  refine ⟨rfl, fun n a b c st hn ha hb hc => run_rt ?_, fun n d st hn hd => run_rt ?_, fun d e st hd => run_exc ?_⟩
  · rw [b_is_line, env0]
    show ∃ v s, _
    rw [size_first hf h hn rfl]
    have hle : n ≤ 1000 := by omega
    have o1 := one n [pd n a, pd n b, pd n c] st (by show 3 ≤ 1000; decide) fun x hx => by
      simp only [List.mem_cons, List.not_mem_nil, or_false] at hx
      rcases hx with rfl | rfl | rfl
      · exact pd_short n a hle
      · exact pd_short n b hle
      · exact pd_short n c hle
    have al : ([pd n a, pd n b, pd n c].all fun x => fitsB n x) = true := by simp [pd_fits]
    rw [al] at o1
    have o2 : ev G (.or (.not (.isT (.var 1) .tuple)) (.or (.cmp .NotEq (.blt .len (.cons (.var 1) .nil)) (.lit (.int 3))) (.one (.not (.blt .all (.cons (.comp [2] (.one 2) (.seq (.var 1)) .none (.call j (.cons (.var 0) (.cons (.var 2) .nil)))) .nil)))))) [some (.dat (.int (n : Nat))), some (.dat (.tuple [pd n a, pd n b, pd n c])), none] st = .ok (.dat (.bool false)) st := o1
    rw [ifF_ex o2]
    have i0 : ∀ s : Store, ev G (.ix (.var 1) (.lit (.int 0))) [some (.dat (.int (n : Nat))), some (.dat (.tuple [pd n a, pd n b, pd n c])), none] s = .ok (.dat (pd n a)) s := fun s => ix_tup rfl rfl (at_pos (j := 0) (by decide) rfl rfl)
    have i1 : ∀ s : Store, ev G (.ix (.var 1) (.lit (.int 1))) [some (.dat (.int (n : Nat))), some (.dat (.tuple [pd n a, pd n b, pd n c])), none] s = .ok (.dat (pd n b)) s := fun s => ix_tup rfl rfl (at_pos (j := 1) (by decide) rfl rfl)
    have i2 : ∀ s : Store, ev G (.ix (.var 1) (.lit (.int 2))) [some (.dat (.int (n : Nat))), some (.dat (.tuple [pd n a, pd n b, pd n c])), none] s = .ok (.dat (pd n c)) s := fun s => ix_tup rfl rfl (at_pos (j := 2) (by decide) rfl rfl)
    have eq : cmpD .Eq (pd n (thr n a b)) (pd n c) = some (Nat.beq (thr n a b) c) := by
      rw [itr_eq (pd_itr n _) (pd_itr n c) (by decide) (by decide), pd_same (thr_lt n a b) hc]
      congr 1
      rw [Bool.eq_iff_iff, decide_eq_true_eq, Nat.beq_eq]
    refine RtB.ret (and_ok (chain_ok (i0 st) (i1 st) (i2 st) (by rw [pd_lt ha hb, ← blt_dec]) (by rw [pd_lt hb hc, ← blt_dec])) fun _ => ?_) (fin_dat rfl)
    rw [one_is]
    exact cmp_ok (callE_ok (evs2_ok (i0 st) (i1 st)) he h3.1.symm (h3.2 n a b st hle)) (i2 st) eq
  · rw [b_is_line, env0]
    show ∃ v s, _
    rw [size_first hf h hn rfl]
    cases d with
    | tuple xs =>
      obtain ⟨h4, h5, h6⟩ := hd
      have o1 := one n xs st h4 h5
      have e1 : (!decide ((xs.length : Int) = 3) || !(xs.all fun x => fitsB n x)) = true := by
        have e2 : decide ((xs.length : Int) = 3) = decide (xs.length = 3) := decide_eq_decide.mpr (by omega)
        rw [e2]
        revert h6
        cases decide (xs.length = 3) <;> cases xs.all fun x => fitsB n x <;> simp
      rw [e1] at o1
      exact RtB.ifT o1 (RtB.ret rfl (fin_dat rfl))
    | int v => exact RtB.ifT (st1 := st) rfl (RtB.ret rfl (fin_dat rfl))
    | bool v => exact RtB.ifT (st1 := st) rfl (RtB.ret rfl (fin_dat rfl))
    | none => exact RtB.ifT (st1 := st) rfl (RtB.ret rfl (fin_dat rfl))
    | str v => exact RtB.ifT (st1 := st) rfl (RtB.ret rfl (fin_dat rfl))
    | list v => exact RtB.ifT (st1 := st) rfl (RtB.ret rfl (fin_dat rfl))
    | dict v => exact RtB.ifT (st1 := st) rfl (RtB.ret rfl (fin_dat rfl))
  · rw [b_is_line, env0]
    exact size_bad hf h hd rfl
end PD

set_option Elab.async false
set_option linter.all false
set_option maxRecDepth 100000
set_option maxHeartbeats 2000000
/-! Rules for evaluating by themselves: bv_omega walks an expression. -/
namespace PD
open PySem
@[irreducible] def callI (G : List Fn) (i : Nat) (vs : List EV) (st : Store) : R EV := callF G i vs st
@[irreducible] def binI (op : Operator) (d e : PyData) : Option PyData := binop op d e
@[irreducible] def cmpI (op : CmpOp) (d e : PyData) : Option Bool := cmpD op d e
theorem bi {op : Operator} {d e : PyData} {r : Option PyData} (h : binop op d e = r) : binI op d e = r := by
  unfold binI
  exact h
theorem ci {op : CmpOp} {d e : PyData} {r : Option Bool} (h : cmpD op d e = r) : cmpI op d e = r := by
  unfold cmpI
  exact h
theorem ci_of {op : CmpOp} {d e : PyData} {r : Option Bool} (h : cmpI op d e = r) : cmpD op d e = r := by
  unfold cmpI at h
  exact h
section
variable {G : List Fn} {env : Env} {st st1 st2 st3 st4 : Store}
theorem callI_of {i : Nat} {f : Fn} {vs : List EV} {r : R EV} (hg : G[i]? = some f) (hl : vs.length = f.ar) (h : f.den vs st = r) : callI G i vs st = r := by
  unfold callI
  rw [callF_at hg hl, h]
theorem r_call {i : Nat} {es : IA} {vs : List EV} {v : EV} (h1 : evs G es env st = .ok vs st1) (h2 : callI G i vs st1 = .ok v st2) : ev G (.call i es) env st = .ok v st2 := by
  unfold callI at h2
  rw [ev_call, h1, bind_ok, h2]
theorem r_evs {e : IE} {es : IA} {v : EV} {vs : List EV} (h1 : ev G e env st = .ok v st1) (h2 : evs G es env st1 = .ok vs st2) : evs G (.cons e es) env st = .ok (v :: vs) st2 := by
  rw [evs_cons, h1, bind_ok, h2]
  rfl
theorem r_tup {es : IA} {vs : List EV} {ds : List PyData} (h1 : evs G es env st = .ok vs st1) (h2 : dats vs = some ds) : ev G (.tup es) env st = .ok (.dat (.tuple ds)) st1 := by
  rw [ev_tup, h1, bind_ok, h2]
theorem r_lst {es : IA} {vs : List EV} {ds : List PyData} (h1 : evs G es env st = .ok vs st1) (h2 : dats vs = some ds) : ev G (.lst es) env st = .ok (.dat (.list ds)) st1 := by
  rw [ev_lst, h1, bind_ok, h2]
theorem r_newL {es : IA} {vs : List EV} {ds : List PyData} (h1 : evs G es env st = .ok vs st1) (h2 : dats vs = some ds) : ev G (.newL es) env st = .ok (.loc st1.length) (st1 ++ [.lst ds]) := by
  rw [ev_newL, h1, bind_ok, h2]
theorem r_blt {b : Blt} {es : IA} {vs : List EV} {ds : List PyData} {d : PyData} (h1 : evs G es env st = .ok vs st1) (h2 : rds st1 vs = some ds) (h3 : bltD b ds = some d) : ev G (.blt b es) env st = .ok (.dat d) st1 := by
  rw [ev_blt, h1, bind_ok, h2]
  show ofO st1 (bltD b ds) = _
  rw [h3]
  rfl
theorem r_cmp {op : CmpOp} {a b : IE} {x y : EV} {v : EV} (h1 : ev G a env st = .ok x st1) (h2 : ev G b env st1 = .ok y st2) (h : cmpV op x y st2 = .ok v st3) : ev G (.cmp op a b) env st = .ok v st3 := by
  rw [ev_cmp, h1, bind_ok, h2, bind_ok, h]
theorem r_bin {op : Operator} {a b : IE} {x y : EV} {d e r : PyData} (h1 : ev G a env st = .ok x st1) (h2 : ev G b env st1 = .ok y st2) (h3 : rd st2 x = some d) (h4 : rd st2 y = some e) (h : binI op d e = some r) : ev G (.bin op a b) env st = .ok (.dat r) st2 := by
  unfold binI at h
  rw [ev_bin, h1, bind_ok, h2, bind_ok]
  simp only [h3, h4]
  rw [h]
  rfl
theorem cv_dat {op : CmpOp} {a b : PyData} {r : Bool} (h : cmpI op a b = some r) : cmpV op (.dat a) (.dat b) st = .ok (.dat (.bool r)) st := cmp_dat (ci_of h)
theorem r_chain {o1 o2 : CmpOp} {a b c : IE} {x y z : PyData} {p q : Bool} (h1 : ev G a env st = .ok (.dat x) st) (h2 : ev G b env st = .ok (.dat y) st) (h3 : ev G c env st = .ok (.dat z) st) (hp : cmpI o1 x y = some p) (hq : cmpI o2 y z = some q) : ev G (.chain o1 o2 a b c) env st = .ok (.dat (.bool (p && q))) st := chain_ok h1 h2 h3 (ci_of hp) (ci_of hq)
theorem cv_in {n : Nat} {k : PyData} {ds : List PyData} {r : Bool} (h : st[n]? = some (.lst ds)) (h2 : cmpI .In k (.list ds) = some r) : cmpV .In (.dat k) (.loc n) st = .ok (.dat (.bool r)) st := by
  have h2 := ci_of h2
  simp only [cmpV, h, h2]
theorem cv_nin {n : Nat} {k : PyData} {ds : List PyData} {r : Bool} (h : st[n]? = some (.lst ds)) (h2 : cmpI .In k (.list ds) = some r) : cmpV .NotIn (.dat k) (.loc n) st = .ok (.dat (.bool (!r))) st := by
  have h2 := ci_of h2
  have h3 : cmpD .NotIn k (.list ds) = some (!r) := by
    show (inD k (.list ds)).map (!·) = _
    rw [show inD k (.list ds) = some r from h2]
    rfl
  simp only [cmpV, h, h3]
theorem cd_nin {k d : PyData} {r : Bool} (h2 : cmpD .In k d = some r) : cmpD .NotIn k d = some (!r) := by
  show (inD k d).map (!·) = _
  rw [show inD k d = some r from h2]
  rfl
theorem cd_ne {k d : PyData} {r : Bool} (h2 : cmpD .Eq k d = some r) : cmpD .NotEq k d = some (!r) := by
  show (eqD k d).map (!·) = _
  rw [show eqD k d = some r from h2]
  rfl
theorem cd_isnot {k d : PyData} {r : Bool} (h2 : cmpD .Is k d = some r) : cmpD .IsNot k d = some (!r) := by
  show (isD k d).map (!·) = _
  rw [show isD k d = some r from h2]
  rfl
theorem cv_eq {x y : EV} {a b : PyData} {r : Bool} (h1 : rd st x = some a) (h2 : rd st y = some b) (h : cmpI .Eq a b = some r) : cmpV .Eq x y st = .ok (.dat (.bool r)) st := by
  have h := ci_of h
  cases x <;> cases y <;> simp only [cmpV, h1, h2, h]
theorem cv_ne {x y : EV} {a b : PyData} {r : Bool} (h1 : rd st x = some a) (h2 : rd st y = some b) (h : cmpI .Eq a b = some r) : cmpV .NotEq x y st = .ok (.dat (.bool (!r))) st := by
  have h := cd_ne (ci_of h)
  cases x <;> cases y <;> simp only [cmpV, h1, h2, h]
theorem r_ite {t a b : IE} {p : Bool} {x y : PyData} (h : ev G t env st = .ok (.dat (.bool p)) st1) (h1 : p = true → ev G a env st1 = .ok (.dat x) st1) (h2 : p = false → ev G b env st1 = .ok (.dat y) st1) : ev G (.ite t a b) env st = .ok (.dat (if p then x else y)) st1 := by
  rw [ev, h, bind_ok]
  cases p with
  | true => exact h1 rfl
  | false => exact h2 rfl
theorem r_ix {a i : IE} {x : EV} {k : Int} {d : PyData} {ds : List PyData} {r : PyData} (h1 : ev G a env st = .ok x st1) (h2 : ev G i env st1 = .ok (.dat (.int k)) st2) (h3 : rd st2 x = some d) (h4 : seqOf d = some ds) (h5 : atD ds k = some r) : ev G (.ix a i) env st = .ok (.dat r) st2 := by
  rw [ev_ix, h1, bind_ok, h2, bind_ok, ixV]
  simp only [h3, h4, h5]
  rfl
theorem r_slcF {a lo : IE} {x : EV} {k : Int} {d r : PyData} (h1 : ev G a env st = .ok x st1) (h2 : ev G lo env st1 = .ok (.dat (.int k)) st2) (h3 : rd st2 x = some d) (h4 : slcD d (some k) none = some r) : ev G (.slc a (.some lo) .none) env st = .ok (.dat r) st2 := by
  rw [ev, h1, bind_ok, evo, h2, bind_ok]
  simp only [evo, bind_ok, h3, h4]
  rfl
theorem r_slcT {a hi : IE} {x : EV} {k : Int} {d r : PyData} (h1 : ev G a env st = .ok x st1) (h2 : ev G hi env st1 = .ok (.dat (.int k)) st2) (h3 : rd st2 x = some d) (h4 : slcD d none (some k) = some r) : ev G (.slc a .none (.some hi)) env st = .ok (.dat r) st2 := by
  rw [ev, h1, bind_ok, evo, bind_ok, evo, h2, bind_ok]
  simp only [bind_ok, h3, h4]
  rfl
theorem r_slcB {a lo hi : IE} {x : EV} {k l : Int} {d r : PyData} (h1 : ev G a env st = .ok x st1) (h2 : ev G lo env st1 = .ok (.dat (.int k)) st2) (h2' : ev G hi env st2 = .ok (.dat (.int l)) st3) (h3 : rd st3 x = some d) (h4 : slcD d (some k) (some l) = some r) : ev G (.slc a (.some lo) (.some hi)) env st = .ok (.dat r) st3 := by
  rw [ev, h1, bind_ok, evo, h2, bind_ok]
  simp only [evo, bind_ok, h2', h3, h4]
  rfl
theorem r_rev {a : IE} {x : EV} {d r : PyData} (h1 : ev G a env st = .ok x st1) (h3 : rd st1 x = some d) (h4 : revD d = some r) : ev G (.rev a) env st = .ok (.dat r) st1 := by
  rw [ev, h1, bind_ok]
  simp only [h3, h4]
  rfl
theorem r_callIx {fs : List Nat} {i : IE} {es : IA} {k : Int} {f : Nat} {vs : List EV} {v : EV} (h1 : ev G i env st = .ok (.dat (.int k)) st1) (h2 : L2.atI fs k = some f) (h3 : evs G es env st1 = .ok vs st2) (h4 : callI G f vs st2 = .ok v st3) : ev G (.callIx fs i es) env st = .ok v st3 := by
  unfold callI at h4
  rw [ev, h1, bind_ok]
  simp only [h2]
  rw [h3, bind_ok, h4]
theorem r_newLst {e : IE} {x : EV} {d : PyData} {ds : List PyData} (h1 : ev G e env st = .ok x st1) (h2 : rd st1 x = some d) (h3 : seqOf d = some ds) : ev G (.newLst e) env st = .ok (.loc st1.length) (st1 ++ [.lst ds]) := by
  rw [ev, h1, bind_ok]
  simp only [h2, h3]
theorem r_isT {a : IE} {t : Ty} {d : PyData} (h1 : ev G a env st = .ok (.dat d) st1) : ev G (.isT a t) env st = .ok (.dat (.bool (isTy d t))) st1 := by
  rw [ev, h1, bind_ok]
  rfl
theorem r_seq {e : IE} {v : EV} {its : Items} (h1 : ev G e env st = .ok v st1) (h2 : itemsOf st1 v = some its) : evI G (.seq e) env st = .ok its st1 := by
  rw [evI, h1, bind_ok]
  simp only [h2]
theorem r_enum {e : IE} {v : EV} {ds : List PyData} {src : Option (Nat × List PyData)} (h1 : ev G e env st = .ok v st1) (h2 : seqItems st1 v = some ⟨ds, src⟩) : evI G (.enum e) env st = .ok ⟨enumD 0 ds, src⟩ st1 := by
  rw [evI, h1, bind_ok]
  simp only [h2]
theorem r_neg {a : IE} {i : Int} (h1 : ev G a env st = .ok (.dat (.int i)) st1) : ev G (.neg a) env st = .ok (.dat (.int (-i))) st1 := by
  rw [ev_neg, h1, bind_ok]
theorem r_app {o e : IE} {n : Nat} {ds : List PyData} {d : PyData} (h1 : ev G o env st = .ok (.loc n) st1) (hm : ∃ es, st1[n]? = some (.lst es)) (h2 : ev G e env st1 = .ok (.dat d) st2) (h3 : st2[n]? = some (.lst ds)) (hl : ds.length < LIM) : ev G (.mth .append o (.cons e .nil)) env st = .ok (.dat .none) (st2.set n (.lst (ds ++ [d]))) := by
  obtain ⟨es, hm⟩ := hm
  have e2 : mthOk .append (.loc n) st1 = true := by simp [mthOk, isLst, hm]
  rw [ev_mth, h1, bind_ok, if_pos e2, evs1_ok h2, bind_ok]
  show appD st2 (.loc n) [.dat d] = _
  unfold appD
  simp only [h3]
  rw [if_pos hl]
theorem r_ext {o e : IE} {n : Nat} {ds es : List PyData} (h1 : ev G o env st = .ok (.loc n) st1) (hm : ∃ es, st1[n]? = some (.lst es)) (h2 : ev G e env st1 = .ok (.dat (.list es)) st2) (h3 : st2[n]? = some (.lst ds)) (hl : ds.length + es.length ≤ LIM) : ev G (.mth .extend o (.cons e .nil)) env st = .ok (.dat .none) (st2.set n (.lst (ds ++ es))) := by
  obtain ⟨es', hm⟩ := hm
  have e2 : mthOk .extend (.loc n) st1 = true := by simp [mthOk, isLst, hm]
  rw [ev_mth, h1, bind_ok, if_pos e2, evs1_ok h2, bind_ok]
  show extD st2 (.loc n) [.dat (.list es)] = _
  unfold extD
  simp only [h3]
  rw [if_pos hl]
theorem r_range {e : IE} {n : Nat} (h1 : ev G e env st = .ok (.dat (.int (n : Nat))) st1) (h : n ≤ 1000000) : evI G (.range1 e) env st = .ok ⟨(List.range n).map fun (j : Nat) => PyData.int (j : Nat), none⟩ st1 := by
  have := range1_ok h1 (by unfold tiny; rw [Bool.and_eq_true, decide_eq_true_eq, decide_eq_true_eq]; constructor <;> omega)
  rw [this, Int.toNat_natCast, range0]
theorem r_map {α : Type} {own : List Nat} {tg : Tg} {it : II} {e : IE} {xs : List α} {enc : α → PyData} {out : α → PyData} {src : Option (Nat × List PyData)} {envF : α → Env} (h1 : evI G it env st = .ok ⟨xs.map enc, src⟩ st1) (hg : guardOk src st1 = true) (hl : xs.length ≤ LIM)
    (hb : ∀ x ∈ xs, bindT tg (wipeE env own) (enc x) = some (envF x)) (he : ∀ x ∈ xs, ∀ acc, ev G e (envF x) (st1 ++ [.lst acc]) = .ok (.dat (out x)) (st1 ++ [.lst acc])) : ev G (.comp own tg it .none e) env st = .ok (.dat (.list (xs.map out))) st1 :=
  comp_map h1 hg hl fun x hx => ⟨_, hb x hx, he x hx⟩
theorem r_fil {α : Type} {own : List Nat} {tg : Tg} {it : II} {c e : IE} {xs : List α} {enc : α → PyData} {out : α → PyData} {p : α → Bool} {src : Option (Nat × List PyData)} {envF : α → Env} (h1 : evI G it env st = .ok ⟨xs.map enc, src⟩ st1) (hg : guardOk src st1 = true) (hl : xs.length ≤ LIM)
    (hb : ∀ x ∈ xs, bindT tg (wipeE env own) (enc x) = some (envF x)) (hc : ∀ x ∈ xs, ∀ acc, ev G c (envF x) (st1 ++ [.lst acc]) = .ok (.dat (.bool (p x))) (st1 ++ [.lst acc])) (he : ∀ x ∈ xs, p x = true → ∀ acc, ev G e (envF x) (st1 ++ [.lst acc]) = .ok (.dat (out x)) (st1 ++ [.lst acc])) : ev G (.comp own tg it (.some c) e) env st = .ok (.dat (.list ((xs.filter p).map out))) st1 :=
  comp_filter h1 hg hl fun x hx => ⟨_, hb x hx, hc x hx, he x hx⟩
theorem dats_cons {d : PyData} {vs : List EV} {ds : List PyData} (h : dats vs = some ds) : dats (.dat d :: vs) = some (d :: ds) := by
  unfold dats
  rw [h]
theorem rd_loc {n : Nat} {ds : List PyData} (h : st[n]? = some (.lst ds)) : rd st (.loc n) = some (.list ds) := by
  unfold rd
  simp only [h]
/-! statements -/
variable {R : EV → Store → Prop} {P : Env → Store → Prop}
theorem RtB.set {i : Nat} {e : IE} {b : IB} {v : EV} (h : ev G e env st = .ok v st1) (p : RtB G b (env.set i (some v)) st1 R) : RtB G (.cons (.set i e) b) env st R := RtB.cons (NxS.set h p)
theorem NxB.set {i : Nat} {e : IE} {b : IB} {v : EV} (h : ev G e env st = .ok v st1) (p : NxB G b (env.set i (some v)) st1 P) : NxB G (.cons (.set i e) b) env st P := NxB.cons (NxS.set h p)
theorem RtB.exp {e : IE} {b : IB} {v : EV} (h : ev G e env st = .ok v st1) (p : RtB G b env st1 R) : RtB G (.cons (.exp e) b) env st R := RtB.cons (NxS.exp h p)
theorem NxB.exp {e : IE} {b : IB} {v : EV} (h : ev G e env st = .ok v st1) (p : NxB G b env st1 P) : NxB G (.cons (.exp e) b) env st P := NxB.cons (NxS.exp h p)
/-- if t: return False, where t is false -/
theorem RtB.pass {t : IE} {a b : IB} {p : Bool} (h : ev G t env st = .ok (.dat (.bool p)) st1) (hp : p = false) (q : RtB G b env st1 R) : RtB G (.cons (.ife t a .nil) b) env st R := by
  subst hp
  exact RtB.cons (NxS.ifF h (NxB.nil q))
theorem NxB.pass {t : IE} {a b : IB} {p : Bool} (h : ev G t env st = .ok (.dat (.bool p)) st1) (hp : p = false) (q : NxB G b env st1 P) : NxB G (.cons (.ife t a .nil) b) env st P := by
  subst hp
  exact NxB.cons (NxS.ifF h (NxB.nil q))
theorem NxS.set2 {i j : Nat} {a b : IE} {x y : EV} (h1 : ev G a env st = .ok x st1) (h2 : ev G b env st1 = .ok y st2) (p : P ((env.set i (some x)).set j (some y)) st2) : NxS G (.set2 i j a b) env st P := by
  refine ⟨_, _, ?_, p⟩
  rw [ex, h1, toF_ok, h2, toF_ok]
theorem RtB.set2 {i j : Nat} {a c : IE} {b : IB} {x y : EV} (h1 : ev G a env st = .ok x st1) (h2 : ev G c env st1 = .ok y st2) (p : RtB G b ((env.set i (some x)).set j (some y)) st2 R) : RtB G (.cons (.set2 i j a c) b) env st R := RtB.cons (NxS.set2 h1 h2 p)
theorem NxS.aug {i : Nat} {e : IE} {m n : Int} (h1 : env[i]? = some (some (.dat (.int m)))) (h2 : ev G e env st = .ok (.dat (.int n)) st1) (p : P (env.set i (some (.dat (.int (m + n))))) st1) : NxS G (.aug i e) env st P := by
  refine ⟨_, _, ?_, p⟩
  rw [ex]
  simp only [h1]
  rw [h2, toF_ok]
end
/-! how a comparison ends -/
theorem itr_up : ∀ {d e : Nat} {x : PyData}, itr d x = true → d ≤ e → itr e x = true := by
  have key : ∀ (d : Nat), (∀ (e : Nat) (x : PyData), itr d x = true → d ≤ e → itr e x = true) ∧ ∀ (e : Nat) (xs : List PyData), itrs d xs = true → d ≤ e → itrs e xs = true := by
    intro d
    induction d with
    | zero =>
      have h0 : ∀ (e : Nat) (x : PyData), itr 0 x = true → 0 ≤ e → itr e x = true := fun e x h _ => by
        cases x with
        | int _ => rw [itr]
        | _ => simp [itr] at h
      refine ⟨h0, fun e xs h he => ?_⟩
      exact itrs_of fun x hx => h0 e x (itrs_mem h x hx) he
    | succ d ih =>
      have h1 : ∀ (e : Nat) (x : PyData), itr (d + 1) x = true → d + 1 ≤ e → itr e x = true := fun e x h he => by
        obtain ⟨e', rfl⟩ : ∃ e', e = e' + 1 := ⟨e - 1, by omega⟩
        cases x with
        | int _ => rw [itr]
        | tuple xs => rw [itr] at h ⊢; exact ih.2 e' xs h (by omega)
        | list xs => rw [itr] at h ⊢; exact ih.2 e' xs h (by omega)
        | _ => simp [itr] at h
      exact ⟨h1, fun e xs h he => itrs_of fun x hx => h1 e x (itrs_mem h x hx) he⟩
  exact fun {d e x} h he => (key d).1 e x h he
/-- whole numbers in tuples and lists -/
def IT (x : PyData) : Prop := itr 20 x = true
def ITs (xs : List PyData) : Prop := itrs 19 xs = true
theorem IT.int (i : Int) : IT (.int i) := by unfold IT; rw [itr]
theorem IT.list {xs : List PyData} (h : ITs xs) : IT (.list xs) := by unfold IT; rw [itr]; exact h
theorem IT.tuple {xs : List PyData} (h : ITs xs) : IT (.tuple xs) := by unfold IT; rw [itr]; exact h
theorem IT.of {d : Nat} {x : PyData} (h : itr d x = true) (hd : d ≤ 20) : IT x := itr_up h hd
theorem ITs.nil : ITs [] := by unfold ITs; rw [itrs]
theorem ITs.cons {d : Nat} {x : PyData} {xs : List PyData} (hx : itr d x = true) (hd : d ≤ 19) (h : ITs xs) : ITs (x :: xs) := by
  unfold ITs
  rw [itrs, Bool.and_eq_true]
  exact ⟨itr_up hx hd, h⟩
theorem ITs.map {α : Type} {f : α → PyData} {xs : List α} {d : Nat} (h : ∀ x ∈ xs, itr d (f x) = true) (hd : d ≤ 19) : ITs (xs.map f) := itrs_of fun y hy => by
  obtain ⟨x, hx, rfl⟩ := List.mem_map.mp hy
  exact itr_up (h x hx) hd
theorem ITs.append {xs ys : List PyData} (h : ITs xs) (h2 : ITs ys) : ITs (xs ++ ys) := itrs_of fun y hy => by
  rcases List.mem_append.mp hy with hy | hy
  · exact itrs_mem h y hy
  · exact itrs_mem h2 y hy
theorem c_eq {x y : PyData} (h1 : IT x) (h2 : IT y) : cmpD .Eq x y = some (same x y) := itr_eq h1 h2 (by decide) (by decide)
theorem c_in {x : PyData} {ds : List PyData} (h1 : IT x) (h2 : ITs ds) : cmpD .In x (.list ds) = some (hasS ds x) := itr_in h1 h2 (by decide) (by decide)
theorem c_inT {x : PyData} {ds : List PyData} (h1 : IT x) (h2 : ITs ds) : cmpD .In x (.tuple ds) = some (hasS ds x) := itr_inT h1 h2 (by decide) (by decide)
theorem ci_ne {k d : PyData} {r : Bool} (h : cmpI .Eq k d = some r) : cmpI .NotEq k d = some (!r) := ci (cd_ne (ci_of h))
theorem ci_nin {k d : PyData} {r : Bool} (h : cmpI .In k d = some r) : cmpI .NotIn k d = some (!r) := ci (cd_nin (ci_of h))
theorem ci_isnot {k d : PyData} {r : Bool} (h : cmpI .Is k d = some r) : cmpI .IsNot k d = some (!r) := ci (cd_isnot (ci_of h))
theorem ci_int (i j : Int) : cmpI .Eq (.int i) (.int j) = some (decide (i = j)) := ci (eq_int i j)
theorem ci_lt (i j : Int) : cmpI .Lt (.int i) (.int j) = some (decide (i < j)) := ci rfl
theorem ci_gt (i j : Int) : cmpI .Gt (.int i) (.int j) = some (decide (j < i)) := ci rfl
theorem ci_le (i j : Int) : cmpI .LtE (.int i) (.int j) = some (decide (i ≤ j)) := ci rfl
theorem ci_ge (i j : Int) : cmpI .GtE (.int i) (.int j) = some (decide (j ≤ i)) := ci rfl
theorem ci_isB (a b : Bool) : cmpI .Is (.bool a) (.bool b) = some (decide (a = b)) := ci rfl
theorem ci_pdlt {n j k : Nat} (hj : j < 3 ^ n) (hk : k < 3 ^ n) : cmpI .Lt (pd n j) (pd n k) = some (decide (j < k)) := ci (pd_lt hj hk)
theorem ci_eq {x y : PyData} (h1 : IT x) (h2 : IT y) : cmpI .Eq x y = some (same x y) := ci (c_eq h1 h2)
theorem ci_in {x : PyData} {ds : List PyData} (h1 : IT x) (h2 : ITs ds) : cmpI .In x (.list ds) = some (hasS ds x) := ci (c_in h1 h2)
theorem ci_inT {x : PyData} {ds : List PyData} (h1 : IT x) (h2 : ITs ds) : cmpI .In x (.tuple ds) = some (hasS ds x) := ci (c_inT h1 h2)
theorem bi_add (i j : Int) : binI .Add (.int i) (.int j) = some (.int (i + j)) := bi rfl
theorem bi_sub (i j : Int) : binI .Sub (.int i) (.int j) = some (.int (i - j)) := bi rfl
theorem bi_mod (i j : Int) (h : 0 < j) : binI .Mod (.int i) (.int j) = some (.int (i % j)) := bi (d_md i j h)
theorem bi_div (i j : Int) (h : 0 < j) (h2 : j < 1073741824) : binI .FloorDiv (.int i) (.int j) = some (.int (i / j)) := bi (d_fd i j h h2)
theorem bi_mul (i j : Int) (h : small i = true ∨ small j = true) : binI .Mult (.int i) (.int j) = some (.int (i * j)) := bi (d_mu i j h)
theorem bi_cat {xs ys : List PyData} (h : xs.length + ys.length ≤ LIM) : binI .Add (.list xs) (.list ys) = some (.list (xs ++ ys)) := bi (by
  show (if decide _ then _ else _) = _
  rw [if_pos (decide_eq_true h)])
theorem bi_catT {xs ys : List PyData} (h : xs.length + ys.length ≤ LIM) : binI .Add (.tuple xs) (.tuple ys) = some (.tuple (xs ++ ys)) := bi (add_tup xs ys h)
theorem same_dec {x y : PyData} : same x y = true ↔ x = y := ⟨same_eq x y, fun h => by rw [h]; exact same_refl _⟩
theorem ne_no {x y : PyData} (h : x = y) : (!same x y) = false := by rw [h, same_refl]; rfl
theorem or_no {p q : Bool} (h : p = false) (h2 : q = false) : (p || q) = false := by rw [h, h2]; rfl
end PD

set_option Elab.async false
set_option linter.all false
set_option maxRecDepth 100000
set_option maxHeartbeats 2000000
/-! Lines of a set among the lines of the board. -/
namespace PD
open PySem
def prs : List Nat → List (Nat × Nat)
  | [] => []
  | x :: r => r.map (fun y => (x, y)) ++ prs r
theorem prs_filter (p : Nat → Bool) : ∀ l : List Nat, prs (l.filter p) = (prs l).filter fun q => p q.1 && p q.2
  | [] => rfl
  | x :: r => by
    rw [prs, List.filter_append, ← prs_filter p r, List.filter_cons, List.filter_map]
    cases hp : p x with
    | true =>
      rw [if_pos rfl, prs]
      congr 2
      refine List.filter_congr fun y _ => ?_
      simp [hp]
    | false =>
      rw [if_neg Bool.false_ne_true]
      have : r.filter ((fun q : Nat × Nat => p q.1 && p q.2) ∘ fun y => (x, y)) = [] := by
        rw [List.filter_eq_nil_iff]
        intro y _
        simp [hp]
      rw [this]
      rfl
theorem foldE_prs {σ : Type} (f : σ → Nat → Nat → σ) : ∀ (l : List Nat) (s : σ), foldE (fun s x r => r.foldl (fun s y => f s x y) s) s l = (prs l).foldl (fun s q => f s q.1 q.2) s
  | [], s => rfl
  | x :: r, s => by
    rw [foldE, foldE_prs f r, prs, List.foldl_append, List.foldl_map]
theorem foldl_collect {α β : Type} (p : α → Bool) (g : α → β) : ∀ (l : List α) (a : List β), l.foldl (fun acc q => if p q then acc ++ [g q] else acc) a = a ++ (l.filter p).map g
  | [], a => by simp
  | x :: r, a => by
    rw [List.foldl_cons, foldl_collect p g r, List.filter_cons]
    cases p x with
    | true => simp
    | false => simp
theorem linesL_prs (n : Nat) (ks : List Nat) : linesL n ks = ((prs ks).filter fun q => Nat.blt q.2 (thr n q.1 q.2) && ks.contains (thr n q.1 q.2)).map fun q => (q.1, q.2, thr n q.1 q.2) := by
  unfold linesL
  refine (foldE_prs (fun acc x y => lstIn n ks x acc y) ks []).trans ?_
  unfold lstIn
  rw [foldl_collect (fun q : Nat × Nat => Nat.blt q.2 (thr n q.1 q.2) && ks.contains (thr n q.1 q.2)) (fun q => (q.1, q.2, thr n q.1 q.2))]
  rfl
theorem asc_ext : ∀ (ks js : List Nat), asc ks = true → asc js = true → (∀ a, a ∈ ks ↔ a ∈ js) → ks = js
  | [], [], _, _, _ => rfl
  | [], y :: js, _, _, h => by have := (h y).mpr List.mem_cons_self; simp at this
  | x :: ks, [], _, _, h => by have := (h x).mp List.mem_cons_self; simp at this
  | x :: ks, y :: js, h1, h2, h => by
    have a1 := asc_above ks x h1
    have a2 := asc_above js y h2
    have e : x = y := by
      rcases List.mem_cons.mp ((h x).mp List.mem_cons_self) with e | hx
      · exact e
      · rcases List.mem_cons.mp ((h y).mpr List.mem_cons_self) with e | hy
        · exact e.symm
        · have := a1 y hy
          have := a2 x hx
          omega
    subst e
    rw [asc_ext ks js (asc_tail h1) (asc_tail h2) fun a => ?_]
    constructor
    · intro ha
      rcases List.mem_cons.mp ((h a).mp (List.mem_cons_of_mem _ ha)) with e | hx
      · have := a1 a ha
        omega
      · exact hx
    · intro ha
      rcases List.mem_cons.mp ((h a).mpr (List.mem_cons_of_mem _ ha)) with e | hx
      · have := a2 a ha
        omega
      · exact hx
theorem asc_of : ∀ (ks : List Nat), ks.Pairwise (· < ·) → asc ks = true
  | [], _ => rfl
  | [x], _ => rfl
  | x :: y :: r, h => by
    rw [asc_cons, Bool.and_eq_true]
    rw [List.pairwise_cons] at h
    exact ⟨by rw [blt_dec, decide_eq_true_eq]; exact h.1 y List.mem_cons_self, asc_of (y :: r) h.2⟩
theorem of_asc : ∀ {ks : List Nat}, asc ks = true → ks.Pairwise (· < ·)
  | [], _ => List.Pairwise.nil
  | x :: r, h => List.pairwise_cons.mpr ⟨asc_above r x h, of_asc (asc_tail h)⟩
theorem asc_range (N : Nat) (p : Nat → Bool) : asc ((List.range N).filter p) = true := asc_of _ (List.Pairwise.filter _ List.pairwise_lt_range)
theorem asc_filter {ks : List Nat} {N : Nat} (h : asc ks = true) (hb : ∀ k ∈ ks, k < N) : ks = (List.range N).filter fun k => ks.contains k :=
  asc_ext _ _ h (asc_range _ _) fun a => by
    rw [List.mem_filter, List.mem_range, List.contains_iff_mem]
    exact ⟨fun h => ⟨hb a h, h⟩, fun h => h.2⟩
def allT (n : Nat) : List (Nat × Nat × Nat) := linesL n (List.range (3 ^ n))
def inAll (ks : List Nat) (t : Nat × Nat × Nat) : Bool := ks.contains t.1 && (ks.contains t.2.1 && ks.contains t.2.2)
theorem linesL_all {n : Nat} {ks : List Nat} (h : asc ks = true) (hb : ∀ k ∈ ks, k < 3 ^ n) : linesL n ks = (allT n).filter (inAll ks) := by
  have e := asc_filter h hb
  unfold allT
  rw [linesL_prs, linesL_prs, List.filter_map, List.filter_filter]
  congr 1
  have e2 : prs ks = (prs (List.range (3 ^ n))).filter fun q => ks.contains q.1 && ks.contains q.2 := (congrArg prs e).trans (prs_filter _ _)
  rw [e2, List.filter_filter]
  refine List.filter_congr fun q _ => ?_
  have hz : (List.range (3 ^ n)).contains (thr n q.1 q.2) = true := List.contains_iff_mem.mpr (List.mem_range.mpr (thr_lt _ _ _))
  simp only [hz, Bool.and_true, inAll, Function.comp]
  cases ks.contains q.1 <;> cases ks.contains q.2 <;> cases ks.contains (thr n q.1 q.2) <;> cases Nat.blt q.2 (thr n q.1 q.2) <;> rfl
end PD

set_option Elab.async false
set_option linter.all false
set_option maxRecDepth 100000
set_option maxHeartbeats 2000000
/-! _law_hits, _law_some_set -/
namespace PD
open PySem
def SeqV (st : Store) (v : EV) (ds : List PyData) : Prop := v = .dat (.tuple ds) ∨ v = .dat (.list ds) ∨ ∃ n, v = .loc n ∧ st[n]? = some (.lst ds)
theorem SeqV.rd {st : Store} {v : EV} {ds : List PyData} (h : SeqV st v ds) : ∃ d, rd st v = some d ∧ (d = .tuple ds ∨ d = .list ds) := by
  rcases h with rfl | rfl | ⟨n, rfl, h⟩
  · exact ⟨_, rfl, .inl rfl⟩
  · exact ⟨_, rfl, .inr rfl⟩
  · exact ⟨_, rd_loc h, .inr rfl⟩
theorem SeqV.enum {st : Store} {v : EV} {ds : List PyData} (h : SeqV st v ds) : ∃ src, seqItems st v = some ⟨ds, src⟩ ∧ guardOk src st = true := by
  rcases h with rfl | rfl | ⟨n, rfl, h⟩
  · exact ⟨none, rfl, rfl⟩
  · exact ⟨none, rfl, rfl⟩
  · exact ⟨some (n, ds), by unfold seqItems; simp only [h], guard_self h⟩
theorem SeqV.more {st st2 : Store} {v : EV} {ds : List PyData} (h : SeqV st v ds) : SeqV (st ++ st2) v ds := by
  rcases h with rfl | rfl | ⟨n, rfl, h⟩
  · exact .inl rfl
  · exact .inr (.inl rfl)
  · refine .inr (.inr ⟨n, rfl, ?_⟩)
    rw [List.getElem?_append_left (List.getElem?_eq_some_iff.mp h).1]
    exact h
theorem RtB.enumR {G : List Fn} {env : Env} {st st1 : Store} {R : EV → Store → Prop} {α : Type} {tg : Tg} {it : II} {a b : IB} {enc : α → PyData} {all : List α} {src : Option (Nat × List PyData)} (I : Env → Store → Prop) (hit : α → List α → Bool) (w : EV) (sR : Store) (h1 : evI G it env st = .ok ⟨enumD 0 (all.map enc), src⟩ st1) (hg : ∀ e s, I e s → guardOk src s = true) (hi : I env st1)
    (h : ∀ pre x r env st, all = pre ++ x :: r → I env st → ∃ env2, bindT tg env (.tuple [.int (pre.length : Nat), enc x]) = some env2 ∧ if hit x r then exB G a env2 st = .ret w sR else NxB G a env2 st I)
    (p : foldE (fun b x r => b || hit x r) false all = false → ∀ e s, I e s → RtB G b e s R) (q : foldE (fun b x r => b || hit x r) false all = true → R w sR) : RtB G (.cons (.for_ tg it a) b) env st R := by
  have key := forL_enum_ret (g := guardOk src) (f := fun d env1 st2 => match bindT tg env1 d with
    | some env2 => exB G a env2 st2
    | none => .err) (enc := enc) (v := w) (stR := sR) I hit hg all [] all env st1 rfl hi fun pre x r env st e hs => by
      obtain ⟨env2, hb, h2⟩ := h pre x r env st e hs
      simp only [hb]
      exact h2
  have e0 : ex G (.for_ tg it a) env st = forL (guardOk src) (fun d env1 st2 => match bindT tg env1 d with
    | some env2 => exB G a env2 st2
    | none => .err) (enumD ([] : List α).length (all.map enc)) env st1 := by
    rw [ex_for, h1]
    rfl
  cases hf : foldE (fun b x r => b || hit x r) false all with
  | true =>
    rw [hf, if_pos rfl] at key
    exact ⟨w, sR, seq_ret (e0.trans key), q hf⟩
  | false =>
    rw [hf, if_neg Bool.false_ne_true] at key
    obtain ⟨e, s, h2, h3⟩ := key
    obtain ⟨v, s2, h4, h5⟩ := p hf e s h3
    exact ⟨v, s2, (seq_nx (e0.trans h2)).trans h4, h5⟩
theorem tail_rd {n : Nat} {ks pre r : List Nat} {x : Nat} {st : Store} {v : EV} (e : ks = pre ++ x :: r) (h : SeqV st v (pds n ks)) : ∃ d t, rd st v = some d ∧ slcD d (some ((pre.length : Int) + 1)) none = some t ∧ itemsOf [] (.dat t) = some ⟨r.map (pd n), none⟩ ∧ (t = .tuple (pds n r) ∨ t = .list (pds n r)) := by
  obtain ⟨d, hd, hd2⟩ := h.rd
  obtain ⟨t, h1, h2, h3⟩ := tail_of e hd2
  exact ⟨d, t, hd, h1, h2, h3⟩
def hitsB (n : Nat) (ks : List Nat) (p : Nat) : Bool := foldE (fun b x r => b || !(r.filter fun y => decide (p = thr n x y)).isEmpty) false ks
def IsHits (f : Fn) : Prop := f.ar = 2 ∧ ∀ (n : Nat) (ks : List Nat) (p : Nat) (st : Store) (v : EV), InB n ks → p < 3 ^ n → SeqV st v (pds n ks) → f.den [v, .dat (pd n p)] st = .ok (.dat (.bool (hitsB n ks p))) st
theorem ones_none {α : Type} (xs : List α) : cmpD .NotEq (.list (xs.map fun _ => .int 1)) (.list []) = some (!xs.isEmpty) := by
  refine cd_ne ?_
  rw [c_eq (IT.list (ITs.map (d := 0) (fun _ _ => by rw [itr]) (by decide))) (IT.list ITs.nil)]
  cases xs <;> rfl
theorem isHits {nm : Str} {G : List Fn} {i : Nat} {f : Fn} (hf : G[i]? = some f) (h : IsRowed f) : IsHits ⟨nm, 2, runDef G 5 (b__law_hits i)⟩ := by
  refine ⟨rfl, fun n ks p st v hb hp hv => run_rt ?_⟩
  have env0 : startE 5 [v, .dat (pd n p)] = [some v, some (.dat (pd n p)), none, none, none] := rfl
  obtain ⟨src, hs1, hs2⟩ := hv.enum
  rw [env0, b__law_hits]
  refine RtB.enumR (enc := pd n) (all := ks) (src := src) (fun env s => s = st ∧ ∃ o2 o3, env = [some v, some (.dat (pd n p)), o2, o3, none]) (fun x r => !(r.filter fun y => decide (p = thr n x y)).isEmpty) (.dat (.bool true)) st (st1 := st) (r_enum (ev_var rfl) hs1) (fun e s ⟨h, _⟩ => by rw [h]; exact hs2) ⟨rfl, _, _, rfl⟩ ?_ ?_ ?_
  · rintro pre x r env s e ⟨rfl, o2, o3, rfl⟩
    refine ⟨_, rfl, ?_⟩
    obtain ⟨d, t, hd, ht1, ht2, ht3⟩ := tail_rd e hv
    have hr : ∀ y ∈ r, y < 3 ^ n := fun y hy => hb.2.1 y (by rw [e]; simp [hy])
    have hkl : ks.length = pre.length + (r.length + 1) := by rw [e, List.length_append, List.length_cons]
    have hl := hb.2.2
    have hc := r_fil (G := G) (own := [4]) (tg := .one 4) (it := .seq (.slc (.var 0) (.some (.bin .Add (.var 2) (.lit (.int 1)))) .none)) (c := .call i (.cons (.var 3) (.cons (.var 4) (.cons (.var 1) .nil)))) (e := .lit (.int 1)) (env := [some v, some (.dat (pd n p)), some (.dat (.int (pre.length : Nat))), some (.dat (pd n x)), none]) (st := s) (st1 := s)
      (xs := r) (enc := pd n) (out := fun _ => .int 1) (p := fun y => decide (p = thr n x y)) (src := none) (r_seq (r_slcF (ev_var rfl) (bin_ok (ev_var rfl) ev_lit (d_ad _ _)) hd ht1) (by rcases ht3 with rfl | rfl <;> rfl)) rfl (by unfold LIM; omega) (fun _ _ => rfl)
      (fun y hy acc => callE_ok (evs3_ok (ev_var rfl) (ev_var rfl) (ev_var rfl)) hf h.1.symm (h.2 n x y p _ (by have := hb.1; omega) hp)) (fun _ _ _ acc => ev_lit)
    have ht := r_cmp hc (r_lst evs_nil dats_nil) (cmp_dat (ones_none _))
    split
    · rename_i hh
      rw [hh] at ht
      exact seq_ret ((if_t ht).trans (seq_ret (ret_ok ev_lit)))
    · rename_i hh
      rw [Bool.not_eq_true] at hh
      rw [hh] at ht
      exact NxB.cons (NxS.ifF ht (NxB.nil (NxB.nil ⟨rfl, _, _, rfl⟩)))
  · rintro hf e s ⟨rfl, o2, o3, rfl⟩
    refine RtB.ret ev_lit ?_
    rw [hitsB, hf]
    exact fin_dat rfl
  · intro hf
    rw [hitsB, hf]
    exact fin_dat rfl
/-! sorted -/
theorem insN_pair {x : Nat} : ∀ {ks : List Nat}, ks.Pairwise (· < ·) → x ∉ ks → (insN x ks).Pairwise (· < ·)
  | [], _, _ => List.pairwise_cons.mpr ⟨by simp, List.Pairwise.nil⟩
  | y :: r, h, hx => by
    rw [List.pairwise_cons] at h
    rw [List.mem_cons, not_or] at hx
    unfold insN
    rw [ble_dec]
    split
    · rename_i hle
      have hle := of_decide_eq_true hle
      refine List.pairwise_cons.mpr ⟨fun a ha => ?_, List.pairwise_cons.mpr h⟩
      rcases List.mem_cons.mp ha with rfl | ha
      · omega
      · have := h.1 a ha
        omega
    · rename_i hle
      rw [decide_eq_true_eq] at hle
      refine List.pairwise_cons.mpr ⟨fun a ha => ?_, insN_pair h.2 hx.2⟩
      rcases insN_mem.mp ha with rfl | ha
      · omega
      · exact h.1 a ha
theorem sortN_pair : ∀ {ks : List Nat}, ks.Nodup → (sortN ks).Pairwise (· < ·)
  | [], _ => List.Pairwise.nil
  | x :: r, h => by
    rw [List.nodup_cons] at h
    exact insN_pair (sortN_pair h.2) fun hx => h.1 (sortN_mem.mp hx)
theorem sortN_asc {ks : List Nat} (h : ks.Nodup) : asc (sortN ks) = true := asc_of _ (sortN_pair h)
theorem asc_nodup {ks : List Nat} (h : asc ks = true) : ks.Nodup := (of_asc h).imp fun h => by omega
theorem sortN_self {ks : List Nat} (h : asc ks = true) : sortN ks = ks := asc_ext _ _ (sortN_asc (asc_nodup h)) h fun _ => sortN_mem
/-! a drawn set -/
def IsSomeSet (L : List Int) (f : Fn) : Prop := f.ar = 4 ∧ ∀ (m n most : Nat) (town : List PyData) (st : Store), st[m]? = some (.lst town) → town.length ≤ 800000 → 1 ≤ n ∧ n ≤ 3 → most ≤ 100 → ∃ (ks : List Nat) (town' : List PyData), SetOk n ks ∧ ks.length ≤ most ∧ town'.length ≤ town.length + most + 2 ∧ f.den [.dat (script L), .loc m, .dat (.int (n : Nat)), .dat (.int (most : Nat))] st = .ok (.dat (sd n ks)) (st.set m (.lst town'))
theorem drawN {L : List Int} {f : Fn} (h : IsDraw L f) {m k : Nat} {town : List PyData} {st : Store} (h1 : st[m]? = some (.lst town)) (h2 : town.length < 900000) (hk : 0 < k) : ∃ v : Nat, v < k ∧ f.den [.dat (script L), .loc m, .dat (.int (k : Nat))] st = .ok (.dat (.int (v : Nat))) (st.set m (.lst (town ++ [.int 0]))) := by
  obtain ⟨v, h3, h4, h5⟩ := h.2 m town (k : Nat) st h1 h2 (by omega)
  refine ⟨v.toNat, by omega, ?_⟩
  rw [h5]
  congr 4
  omega
theorem pickN {L : List Int} {f : Fn} (h : IsPick L f) {m : Nat} {town : List PyData} {α : Type} {enc : α → PyData} {xs : List α} {st : Store} (h1 : st[m]? = some (.lst town)) (h2 : town.length < 900000) (hk : 0 < xs.length) : ∃ x ∈ xs, f.den [.dat (script L), .loc m, .dat (.list (xs.map enc))] st = .ok (.dat (enc x)) (st.set m (.lst (town ++ [.int 0]))) := by
  obtain ⟨i, hi, h5⟩ := h.2 m town (xs.map enc) st h1 h2 (by rw [List.length_map]; exact hk)
  rw [List.length_map] at hi
  refine ⟨xs[i], List.getElem_mem hi, ?_⟩
  rw [h5, List.getElem_map]
theorem isSomeSet {nm : Str} {G : List Fn} {L : List Int} {i j k l : Nat} {fd fg fh fp : Fn} (hd : G[i]? = some fd) (kd : IsDraw L fd) (hg : G[j]? = some fg) (kg : IsGrid fg) (hh : G[k]? = some fh) (kh : IsHits fh) (hp : G[l]? = some fp) (kp : IsPick L fp) : IsSomeSet L ⟨nm, 4, runDef G 9 (b__law_some_set i j k l)⟩ := by
  refine ⟨rfl, fun m n most town st hm ht hn hmost => ?_⟩
  have hml := (List.getElem?_eq_some_iff.mp hm).1
  have p3 : 3 ^ n ≤ 27 := Nat.le_trans (Nat.pow_le_pow_right (by decide) hn.2) (by decide)
  have p0 : 0 < 3 ^ n := Nat.pow_pos (by decide)
  have env0 : startE 9 [.dat (script L), .loc m, .dat (.int (n : Nat)), .dat (.int (most : Nat))] = [some (.dat (script L)), some (.loc m), some (.dat (.int (n : Nat))), some (.dat (.int (most : Nat))), none, none, none, none, none] := rfl
  have main : RtB G (b__law_some_set i j k l) (startE 9 [.dat (script L), .loc m, .dat (.int (n : Nat)), .dat (.int (most : Nat))]) st fun v s => ∃ (ks : List Nat) (town' : List PyData), SetOk n ks ∧ ks.length ≤ most ∧ town'.length ≤ town.length + most + 2 ∧ v = .dat (sd n ks) ∧ ∃ x, s = st.set m (.lst town') ++ [x] := by
    rw [env0, b__law_some_set]
    refine RtB.set2 (callE_ok (evs1_ok (ev_var rfl)) hg kg.1.symm (kg.2 n st hn)) (r_newL evs_nil dats_nil) ?_
    dsimp only [List.set]
    have g1 : ∀ (town' : List PyData) (x : Cell), (st.set m (.lst town') ++ [x])[m]? = some (.lst town') := fun town' x => by
      rw [List.getElem?_append_left (by rw [List.length_set]; exact hml), get_set hm]
    have g2 : ∀ (town' town'' : List PyData) (x : Cell), (st.set m (.lst town') ++ [x]).set m (.lst town'') = st.set m (.lst town'') ++ [x] := fun town' town'' x => by
      rw [List.set_append_left _ _ (by rw [List.length_set]; exact hml), List.set_set]
    have g3 : ∀ (town' : List PyData) (x : Cell), (st.set m (.lst town') ++ [x])[st.length]? = some x := fun town' x => by
      rw [List.getElem?_append_right (by rw [List.length_set]; exact Nat.le_refl _), List.length_set, Nat.sub_self]
      rfl
    have g4 : ∀ (town' : List PyData) (x y : Cell), (st.set m (.lst town') ++ [x]).set st.length y = st.set m (.lst town') ++ [y] := fun town' x y => by
      rw [List.set_append_right _ _ (by rw [List.length_set]; exact Nat.le_refl _), List.length_set, Nat.sub_self]
      rfl
    have g0 : st ++ [Cell.lst []] = st.set m (.lst town) ++ [.lst []] := by
      congr 1
      refine (List.ext_getElem? fun a => ?_).symm
      rw [List.getElem?_set]
      split
      · rename_i e
        subst e
        first | rw [if_pos hml, hm] | exact hm.symm
      · rfl
    rw [g0]
    obtain ⟨v, hv1, hv2⟩ := drawN kd (k := 2) (g1 town (.lst [])) (by omega) (by decide)
    rw [g2] at hv2
    refine RtB.set (v := .dat (.bool (decide ((v : Int) = 0)))) (r_cmp (callE_ok (evs3_ok (ev_var rfl) (ev_var rfl) ev_lit) hd kd.1.symm hv2) ev_lit (cmp_dat (eq_int _ _))) ?_
    dsimp only [List.set]
    generalize decide ((v : Int) = 0) = grown
    obtain ⟨w, hw1, hw2⟩ := drawN kd (k := most + 1) (g1 (town ++ [.int 0]) (.lst [])) (by rw [List.length_append]; simp only [List.length_singleton]; omega) (by omega)
    rw [g2] at hw2
    refine RtB.cons (NxS.loop (σ := Unit) (enc := fun (j : Nat) => PyData.int (j : Nat)) (xs := List.range w) (src := none) (fun c _ env s => ∃ (made : List Nat) (town' : List PyData), made.Nodup ∧ (∀ a ∈ made, a < 3 ^ n) ∧ made.length ≤ c ∧ town'.length ≤ town.length + 2 + c ∧ s = st.set m (.lst town') ++ [.lst (pds n made)] ∧ ∃ o5 o8, env = [some (.dat (script L)), some (.loc m), some (.dat (.int (n : Nat))), some (.dat (.int (most : Nat))), some (.dat (.bool grown)), o5, some (.dat (.list (pds n (List.range (3 ^ n))))), some (.loc st.length), o8]) (fun _ _ => ()) () (r_range (callE_ok (evs3_ok (ev_var rfl) (ev_var rfl) (bin_ok (ev_var rfl) ev_lit (d_ad _ _))) hd kd.1.symm hw2) (by omega)) (fun _ _ _ _ _ => rfl) ⟨[], town ++ [.int 0] ++ [.int 0], List.nodup_nil, by simp, by simp, by simp, rfl, _, _, rfl⟩ ?_ ?_)
    · rintro c _ x env s hc _ ⟨made, town', h1, h2, h3, h4, rfl, o5, o8, rfl⟩
      refine ⟨_, rfl, ?_⟩
      rw [List.length_range] at hc
      obtain ⟨p, hp1, hp2⟩ := pickN kp (enc := pd n) (xs := List.range (3 ^ n)) (g1 town' (.lst (pds n made))) (by omega) (by rw [List.length_range]; exact p0)
      rw [g2] at hp2
      have hpl : p < 3 ^ n := List.mem_range.mp hp1
      refine NxB.set (v := .dat (pd n p)) (callE_ok (evs3_ok (ev_var rfl) (ev_var rfl) (ev_var rfl)) hp kp.1.symm hp2) ?_
      dsimp only [List.set]
      have hin : InB n made := ⟨hn, h2, by omega⟩
      have t1 := and_ok (G := G) (a := .cmp .NotIn (.var 8) (.var 7)) (b := .one (.not (.and (.var 4) (.one (.call k (.cons (.var 7) (.cons (.var 8) .nil))))))) (env := [some (.dat (script L)), some (.loc m), some (.dat (.int (n : Nat))), some (.dat (.int (most : Nat))), some (.dat (.bool grown)), some (.dat (.int (x : Nat))), some (.dat (.list (pds n (List.range (3 ^ n))))), some (.loc st.length), some (.dat (pd n p))]) (st := st.set m (.lst (town' ++ [.int 0])) ++ [.lst (pds n made)])
        (r_cmp (ev_var rfl) (ev_var rfl) (cv_nin (g3 _ _) (ci_in (IT.of (pd_itr n p) (by decide)) (ITs.map (fun _ _ => pd_itr _ _) (by decide))))) (fun _ => not_ok (and_ok (ev_var rfl) fun _ => callE_ok (evs2_ok (ev_var rfl) (ev_var rfl)) hh kh.1.symm (kh.2 n made p _ _ hin hpl (.inr (.inr ⟨_, rfl, g3 _ _⟩)))))
      have e3 : hasS (pds n made) (pd n p) = decide (p ∈ made) := pd_hasS hpl h2
      rw [show hasS (List.map (pd n) made) (pd n p) = decide (p ∈ made) from e3] at t1
      have l1 : (town' ++ [PyData.int 0]).length ≤ town.length + 2 + (c + 1) := by rw [List.length_append]; simp only [List.length_singleton]; omega
      cases hb : ((!decide (p ∈ made)) && !(grown && hitsB n made p)) with
      | true =>
        rw [hb] at t1
        have hnew : p ∉ made := by
          rw [Bool.and_eq_true, Bool.not_eq_true', decide_eq_false_iff_not] at hb
          exact hb.1
        refine NxB.cons (NxS.ifT t1 (NxB.exp (r_app (ev_var rfl) ⟨_, g3 _ _⟩ (ev_var rfl) (g3 _ _) (by unfold pds; rw [List.length_map]; unfold LIM; omega)) ?_))
        rw [g4]
        refine NxB.nil (NxB.nil ⟨made ++ [p], town' ++ [.int 0], ?_, ?_, ?_, l1, ?_, _, _, rfl⟩)
        · exact List.nodup_append.mpr ⟨h1, by simp, fun a ha b hb => by rw [List.mem_singleton] at hb; subst hb; intro e; subst e; exact hnew ha⟩
        · intro a ha
          rcases List.mem_append.mp ha with ha | ha
          · exact h2 a ha
          · rw [List.mem_singleton.mp ha]
            exact hpl
        · rw [List.length_append, List.length_singleton]
          omega
        · unfold pds
          rw [List.map_append]
          rfl
      | false =>
        rw [hb] at t1
        exact NxB.cons (NxS.ifF t1 (NxB.nil (NxB.nil ⟨made, town' ++ [.int 0], h1, h2, by omega, l1, rfl, _, _, rfl⟩)))
    · rintro e s ⟨made, town', h1, h2, h3, h4, rfl, o5, o8, rfl⟩
      rw [List.length_range] at h3 h4
      have hs : bltD .sorted [.list (pds n made)] = some (.list (pds n (sortN made))) := sorted_pds hn.1 (by omega) h2
      refine RtB.ret (v := .dat (sd n (sortN made))) (st1 := st.set m (.lst town') ++ [.lst (pds n made)]) (r_blt (evs1_ok (r_blt (evs1_ok (ev_var rfl)) (rds_cons (rd_loc (g3 _ _)) rds_nil) hs)) (rds_cons rd_dat rds_nil) rfl) ?_
      exact ⟨sortN made, town', ⟨⟨hn, fun a ha => h2 a (sortN_mem.mp ha), by rw [sortN_len]; omega⟩, sortN_asc h1⟩, by rw [sortN_len]; omega, by omega, rfl, _, rfl⟩
  obtain ⟨v, s, h1, ks, town', h2, h3, h4, rfl, x, rfl⟩ := main
  refine ⟨ks, town', h2, h3, h4, (run_ret h1).trans ?_⟩
  have el : (st.set m (.lst town')).length = st.length := List.length_set
  rw [← el]
  exact fin_data
end PD

set_option Elab.async false
set_option linter.all false
set_option maxRecDepth 100000
set_option maxHeartbeats 2000000
/-! What lies outside a set; pairs. -/
namespace PD
open PySem
def outL (n : Nat) (ks : List Nat) : List Nat := (List.range (3 ^ n)).filter fun p => !ks.contains p
theorem hasS_has {n : Nat} {ks : List Nat} {x : Nat} (h : ∀ k ∈ ks, k < 3 ^ n) (hx : x < 3 ^ n) : hasS (pds n ks) (pd n x) = ks.contains x := by
  rw [pd_hasS hx h, has_dec]
theorem out_eq {n : Nat} {ks : List Nat} (h : ∀ k ∈ ks, k < 3 ^ n) : ((List.range (3 ^ n)).filter fun x => !hasS (pds n ks) (pd n x)) = outL n ks := List.filter_congr fun x hx => by
  rw [hasS_has h (List.mem_range.mp hx)]
theorem n3 {n : Nat} (h : 1 ≤ n ∧ n ≤ 3) : n = 1 ∨ n = 2 ∨ n = 3 := by omega
theorem out_set {n : Nat} (ks : List Nat) (hn : 1 ≤ n ∧ n ≤ 3) : SetOk n (outL n ks) := by
  refine ⟨⟨hn, fun k hk => List.mem_range.mp (List.mem_filter.mp hk).1, ?_⟩, asc_range _ _⟩
  have : (outL n ks).length ≤ 3 ^ n := leftN_le n ks
  have : 3 ^ n ≤ 27 := Nat.le_trans (Nat.pow_le_pow_right (by decide) hn.2) (by decide)
  omega
where leftN_le (n : Nat) (ks : List Nat) : (outL n ks).length ≤ 3 ^ n := left_le n ks
theorem filter_parts {α : Type} (p : α → Bool) : ∀ l : List α, (l.filter p).length + (l.filter fun x => !p x).length = l.length
  | [] => rfl
  | x :: r => by
    have := filter_parts p r
    rw [List.filter_cons, List.filter_cons]
    cases p x with
    | true => simp; omega
    | false => simp; omega
theorem out_len {n : Nat} {ks : List Nat} (h : asc ks = true) (hb : ∀ k ∈ ks, k < 3 ^ n) : ks.length + (outL n ks).length = 3 ^ n := by
  have e := asc_filter h hb
  have := filter_parts (fun k => ks.contains k) (List.range (3 ^ n))
  rw [← e, List.length_range] at this
  exact this
end PD

set_option Elab.async false
set_option linter.all false
set_option maxRecDepth 100000
set_option maxHeartbeats 4000000
/-! The boards' lines, written down; no free set is greater than told. -/
namespace PD
open PySem
def T2 : List (Nat × Nat × Nat) := [(0, 1, 2), (0, 3, 6), (0, 4, 8), (0, 5, 7), (1, 3, 8), (1, 4, 7), (1, 5, 6), (2, 3, 7), (2, 4, 6), (2, 5, 8), (3, 4, 5), (6, 7, 8)]
def T3 : List (Nat × Nat × Nat) := [(0, 1, 2), (0, 3, 6), (0, 4, 8), (0, 5, 7), (0, 9, 18), (0, 10, 20), (0, 11, 19), (0, 12, 24), (0, 13, 26), (0, 14, 25), (0, 15, 21), (0, 16, 23), (0, 17, 22), (1, 3, 8), (1, 4, 7), (1, 5, 6), (1, 9, 20), (1, 10, 19), (1, 11, 18), (1, 12, 26), (1, 13, 25), (1, 14, 24), (1, 15, 23), (1, 16, 22), (1, 17, 21), (2, 3, 7), (2, 4, 6), (2, 5, 8), (2, 9, 19), (2, 10, 18), (2, 11, 20), (2, 12, 25), (2, 13, 24), (2, 14, 26), (2, 15, 22), (2, 16, 21), (2, 17, 23), (3, 4, 5), (3, 9, 24), (3, 10, 26), (3, 11, 25), (3, 12, 21), (3, 13, 23), (3, 14, 22), (3, 15, 18), (3, 16, 20), (3, 17, 19), (4, 9, 26), (4, 10, 25), (4, 11, 24), (4, 12, 23), (4, 13, 22), (4, 14, 21), (4, 15, 20), (4, 16, 19), (4, 17, 18), (5, 9, 25), (5, 10, 24), (5, 11, 26), (5, 12, 22), (5, 13, 21), (5, 14, 23), (5, 15, 19), (5, 16, 18), (5, 17, 20), (6, 7, 8), (6, 9, 21), (6, 10, 23), (6, 11, 22), (6, 12, 18), (6, 13, 20), (6, 14, 19), (6, 15, 24), (6, 16, 26), (6, 17, 25), (7, 9, 23), (7, 10, 22), (7, 11, 21), (7, 12, 20), (7, 13, 19), (7, 14, 18), (7, 15, 26), (7, 16, 25), (7, 17, 24), (8, 9, 22), (8, 10, 21), (8, 11, 23), (8, 12, 19), (8, 13, 18), (8, 14, 20), (8, 15, 25), (8, 16, 24), (8, 17, 26), (9, 10, 11), (9, 12, 15), (9, 13, 17), (9, 14, 16), (10, 12, 17), (10, 13, 16), (10, 14, 15), (11, 12, 16), (11, 13, 15), (11, 14, 17), (12, 13, 14), (15, 16, 17), (18, 19, 20), (18, 21, 24), (18, 22, 26), (18, 23, 25), (19, 21, 26), (19, 22, 25), (19, 23, 24), (20, 21, 25), (20, 22, 24), (20, 23, 26), (21, 22, 23), (24, 25, 26)]
/-- the planes, three by three parallel, each as an image of the board of the size 2 -/
def planes : List (List (List Nat)) := [[[0, 9, 18, 3, 12, 21, 6, 15, 24], [1, 10, 19, 4, 13, 22, 7, 16, 25], [2, 11, 20, 5, 14, 23, 8, 17, 26]],
  [[0, 9, 18, 1, 10, 19, 2, 11, 20], [3, 12, 21, 4, 13, 22, 5, 14, 23], [6, 15, 24, 7, 16, 25, 8, 17, 26]],
  [[0, 9, 18, 5, 14, 23, 7, 16, 25], [1, 10, 19, 3, 12, 21, 8, 17, 26], [2, 11, 20, 4, 13, 22, 6, 15, 24]],
  [[0, 9, 18, 4, 13, 22, 8, 17, 26], [2, 11, 20, 3, 12, 21, 7, 16, 25], [1, 10, 19, 5, 14, 23, 6, 15, 24]],
  [[0, 3, 6, 1, 4, 7, 2, 5, 8], [9, 12, 15, 10, 13, 16, 11, 14, 17], [18, 21, 24, 19, 22, 25, 20, 23, 26]],
  [[0, 11, 19, 3, 14, 22, 6, 17, 25], [1, 9, 20, 4, 12, 23, 7, 15, 26], [2, 10, 18, 5, 13, 21, 8, 16, 24]],
  [[0, 10, 20, 3, 13, 23, 6, 16, 26], [2, 9, 19, 5, 12, 22, 8, 15, 25], [1, 11, 18, 4, 14, 21, 7, 17, 24]],
  [[0, 15, 21, 1, 16, 22, 2, 17, 23], [3, 9, 24, 4, 10, 25, 5, 11, 26], [6, 12, 18, 7, 13, 19, 8, 14, 20]],
  [[0, 11, 19, 5, 13, 21, 7, 15, 26], [1, 9, 20, 3, 14, 22, 8, 16, 24], [2, 10, 18, 4, 12, 23, 6, 17, 25]],
  [[0, 10, 20, 4, 14, 21, 8, 15, 25], [2, 9, 19, 3, 13, 23, 7, 17, 24], [1, 11, 18, 5, 12, 22, 6, 16, 26]],
  [[0, 12, 24, 1, 13, 25, 2, 14, 26], [6, 9, 21, 7, 10, 22, 8, 11, 23], [3, 15, 18, 4, 16, 19, 5, 17, 20]],
  [[0, 11, 19, 4, 12, 23, 8, 16, 24], [1, 9, 20, 5, 13, 21, 6, 17, 25], [2, 10, 18, 3, 14, 22, 7, 15, 26]],
  [[0, 10, 20, 5, 12, 22, 7, 17, 24], [2, 9, 19, 4, 14, 21, 6, 16, 26], [1, 11, 18, 3, 13, 23, 8, 15, 25]]]
def T1 : List (Nat × Nat × Nat) := [(0, 1, 2)]
theorem allT1 : allT 1 = T1 := by decide +kernel
theorem allT2 : allT 2 = T2 := by decide +kernel
theorem allT3 : allT 3 = T3 := by decide +kernel
def TT (n : Nat) : List (Nat × Nat × Nat) := match n with
  | 1 => T1
  | 2 => T2
  | _ => T3
theorem allT_is {n : Nat} (h : 1 ≤ n ∧ n ≤ 3) : allT n = TT n := by
  rcases n3 h with rfl | rfl | rfl
  · exact allT1
  · exact allT2
  · exact allT3
theorem TT_lt {n : Nat} (h : 1 ≤ n ∧ n ≤ 3) : ∀ t ∈ TT n, t.1 < t.2.1 ∧ t.2.1 < t.2.2 ∧ t.2.2 < 3 ^ n ∧ t.2.2 = thr n t.1 t.2.1 := by
  rcases n3 h with rfl | rfl | rfl <;> decide +kernel
theorem linesT {n : Nat} {ks : List Nat} (h : SetOk n ks) : linesL n ks = (TT n).filter (inAll ks) := by
  rw [linesL_all h.2 h.1.2.1, allT_is h.1.1]
theorem TT_len {n : Nat} : (TT n).length ≤ 117 := by
  unfold TT
  split <;> decide +kernel
theorem lines_len {n : Nat} {ks : List Nat} (h : SetOk n ks) : (linesL n ks).length ≤ 117 := by
  rw [linesT h]
  exact Nat.le_trans (List.length_filter_le _ _) TT_len
theorem lines_all {n : Nat} (h : 1 ≤ n ∧ n ≤ 3) : linesL n (List.range (3 ^ n)) = TT n := allT_is h
/-! all sets of a board -/
def subs : List Nat → List (List Nat)
  | [] => [[]]
  | x :: r => subs r ++ (subs r).map (x :: ·)
theorem subs_filter (p : Nat → Bool) : ∀ l : List Nat, l.filter p ∈ subs l
  | [] => by simp [subs]
  | x :: r => by
    have ih := subs_filter p r
    rw [subs, List.filter_cons]
    split
    · exact List.mem_append_right _ (List.mem_map.mpr ⟨_, ih, rfl⟩)
    · exact List.mem_append_left _ ih
theorem set_subs {n : Nat} {ks : List Nat} (h : SetOk n ks) : ks ∈ subs (List.range (3 ^ n)) := by
  have e := asc_filter h.2 h.1.2.1
  rw [e]
  exact subs_filter _ _
theorem inAll_perm (ks : List Nat) (a b c : Nat) : inAll ks (a, b, c) = (ks.contains a && (ks.contains b && ks.contains c)) := rfl
theorem cap1 : ∀ ks ∈ subs (List.range 3), (T1.filter (inAll ks)).isEmpty = true → ks.length ≤ 2 := by decide +kernel
theorem cap2 : ∀ ks ∈ subs (List.range 9), (T2.filter (inAll ks)).isEmpty = true → ks.length ≤ 4 := by decide +kernel
def sort2 (a b : Nat) : Nat × Nat := if Nat.ble a b then (a, b) else (b, a)
def sort3 (a b c : Nat) : Nat × Nat × Nat := if Nat.ble c (sort2 a b).1 then (c, sort2 a b) else ((sort2 a b).1, sort2 (sort2 a b).2 c)
theorem sort2_and (f : Nat → Bool) (a b : Nat) : (f (sort2 a b).1 && f (sort2 a b).2) = (f a && f b) := by
  unfold sort2
  split
  · rfl
  · exact Bool.and_comm _ _
theorem inAll_sort3 (ks : List Nat) (a b c : Nat) : inAll ks (sort3 a b c) = inAll ks (a, b, c) := by
  have h1 := sort2_and (fun x => ks.contains x) a b
  have h2 := sort2_and (fun x => ks.contains x) (sort2 a b).2 c
  unfold sort3 inAll
  split
  · dsimp only at *
    rw [h1]
    cases ks.contains a <;> cases ks.contains b <;> cases ks.contains c <;> rfl
  · dsimp only at *
    rw [h2, ← Bool.and_assoc, h1, Bool.and_assoc]
def img (Q : List Nat) (i : Nat) : Nat := Q.getD i 0
theorem planes_lines : ∀ C ∈ planes, ∀ Q ∈ C, ∀ t ∈ T2, T3.contains (sort3 (img Q t.1) (img Q t.2.1) (img Q t.2.2)) = true := by decide +kernel
theorem planes_pairs : ∀ q ∈ prs (List.range 27), (planes.map fun C => (C.map fun Q => if Q.contains q.1 && Q.contains q.2 then 1 else 0).sum).sum = 4 := by decide +kernel
theorem planes_parts : ∀ C ∈ planes, ∀ x ∈ List.range 27, (C.map fun Q => if Q.contains x then 1 else 0).sum = 1 := by decide +kernel
theorem planes_len : planes.length = 13 ∧ ∀ C ∈ planes, C.length = 3 ∧ ∀ Q ∈ C, Q.length = 9 ∧ (∀ x ∈ Q, x < 27) ∧ (Q.map fun x => x) = (List.range 9).map (img Q) := by decide +kernel
/-! counting -/
theorem sum_swap {α β : Type} (g : α → β → Nat) : ∀ (l : List α) (m : List β), (l.map fun x => (m.map fun y => g x y).sum).sum = (m.map fun y => (l.map fun x => g x y).sum).sum
  | [], m => by
    have : ∀ m : List β, (m.map fun y => (([] : List α).map fun x => g x y).sum).sum = 0 := fun m => by
      induction m with
      | nil => rfl
      | cons y r ih => rw [List.map_cons, List.sum_cons, ih]; rfl
    rw [this]
    rfl
  | x :: r, m => by
    rw [List.map_cons, List.sum_cons, sum_swap g r m]
    induction m with
    | nil => rfl
    | cons y q ih =>
      simp only [List.map_cons, List.sum_cons] at ih ⊢
      omega
theorem len_sum {α : Type} (p : α → Bool) : ∀ l : List α, (l.filter p).length = (l.map fun x => if p x then 1 else 0).sum
  | [] => rfl
  | x :: r => by
    rw [List.filter_cons, List.map_cons, List.sum_cons, ← len_sum p r]
    cases p x with
    | true => simp; omega
    | false => simp
theorem sum_const {α : Type} (f : α → Nat) (c : Nat) : ∀ l : List α, (∀ x ∈ l, f x = c) → (l.map f).sum = c * l.length
  | [], _ => rfl
  | x :: r, h => by
    rw [List.map_cons, List.sum_cons, h x List.mem_cons_self, sum_const f c r fun y hy => h y (List.mem_cons_of_mem _ hy), List.length_cons, Nat.mul_add]
    omega
theorem sum_le {α : Type} (f : α → Nat) (c : Nat) : ∀ l : List α, (∀ x ∈ l, f x ≤ c) → (l.map f).sum ≤ c * l.length
  | [], _ => Nat.le_refl _
  | x :: r, h => by
    have h1 := h x List.mem_cons_self
    have h2 := sum_le f c r fun y hy => h y (List.mem_cons_of_mem _ hy)
    rw [List.map_cons, List.sum_cons, List.length_cons, Nat.mul_add]
    omega
theorem prs_len : ∀ l : List Nat, 2 * (prs l).length + l.length = l.length * l.length
  | [] => rfl
  | x :: r => by
    have := prs_len r
    rw [prs, List.length_append, List.length_map, List.length_cons, Nat.mul_add, Nat.add_mul, Nat.mul_add]
    omega
theorem prs_mem : ∀ {l : List Nat} {q : Nat × Nat}, q ∈ prs l → q.1 ∈ l ∧ q.2 ∈ l
  | x :: r, q, h => by
    rw [prs] at h
    rcases List.mem_append.mp h with h | h
    · obtain ⟨y, hy, rfl⟩ := List.mem_map.mp h
      exact ⟨List.mem_cons_self, List.mem_cons_of_mem _ hy⟩
    · have := prs_mem h
      exact ⟨List.mem_cons_of_mem _ this.1, List.mem_cons_of_mem _ this.2⟩
theorem prs_board {n : Nat} {ks : List Nat} (h : asc ks = true) (hb : ∀ k ∈ ks, k < 3 ^ n) : prs ks = (prs (List.range (3 ^ n))).filter fun q => ks.contains q.1 && ks.contains q.2 :=
  (congrArg prs (asc_filter h hb)).trans (prs_filter _ _)
/-- a plane's part of a free set -/
theorem plane_le {ks : List Nat} (hf : T3.filter (inAll ks) = []) {C : List (List Nat)} (hC : C ∈ planes) {Q : List Nat} (hQ : Q ∈ C) : (Q.filter fun x => ks.contains x).length ≤ 4 := by
  have hq := (planes_len.2 C hC).2 Q hQ
  have e : Q = (List.range 9).map (img Q) := by rw [← hq.2.2, List.map_id']
  have h1 : (Q.filter fun x => ks.contains x).length = ((List.range 9).filter fun i => ks.contains (img Q i)).length := by
    have := congrArg (fun l : List Nat => (l.filter fun x => ks.contains x).length) e
    rw [List.filter_map, List.length_map] at this
    exact this
  rw [h1]
  refine cap2 _ (subs_filter _ _) ?_
  rw [List.isEmpty_iff, List.filter_eq_nil_iff]
  intro t ht hin
  have hl := planes_lines C hC Q hQ t ht
  rw [List.contains_iff_mem] at hl
  have hno := (List.filter_eq_nil_iff.mp hf) _ hl
  rw [inAll_sort3] at hno
  apply hno
  have key : ∀ i, i < 9 → ((List.range 9).filter fun i => ks.contains (img Q i)).contains i = true → ks.contains (img Q i) = true := fun i hi h => by
    rw [List.contains_iff_mem, List.mem_filter] at h
    exact h.2
  have ht2 := TT_lt (n := 2) (by decide) t ht
  unfold inAll at hin ⊢
  rw [Bool.and_eq_true, Bool.and_eq_true] at hin
  rw [key _ (by omega) hin.1, key _ (by omega) hin.2.1, key _ (by omega) hin.2.2]
  rfl
theorem swap_filter {Q ks : List Nat} (hQ : Q.Nodup) (hk : ks.Nodup) : (Q.filter fun x => ks.contains x).length = (ks.filter fun x => Q.contains x).length := by
  refine List.Perm.length_eq ?_
  refine (List.perm_ext_iff_of_nodup (hQ.filter _) (hk.filter _)).mpr fun a => ?_
  rw [List.mem_filter, List.mem_filter, List.contains_iff_mem, List.contains_iff_mem]
  exact And.comm
theorem planes_nodup : ∀ C ∈ planes, ∀ Q ∈ C, Q.Nodup := by decide +kernel
theorem ten_no {ks : List Nat} (ha : asc ks = true) (hb : ∀ k ∈ ks, k < 27) (hf : T3.filter (inAll ks) = []) (hl : ks.length = 10) : False := by
  have hn := asc_nodup ha
  have e1 : ((prs ks).map fun q => (planes.map fun C => (C.map fun Q => if Q.contains q.1 && Q.contains q.2 then 1 else 0).sum).sum).sum = 4 * (prs ks).length := sum_const _ 4 _ fun q hq => by
    refine planes_pairs q ?_
    rw [prs_board (n := 3) ha hb] at hq
    exact (List.mem_filter.mp hq).1
  rw [sum_swap] at e1
  have e2 : (planes.map fun C => ((prs ks).map fun q => (C.map fun Q => if Q.contains q.1 && Q.contains q.2 then 1 else 0).sum).sum).sum ≤ 13 * planes.length := sum_le _ 13 _ fun C hC => by
    rw [sum_swap]
    have e3 : ∀ Q ∈ C, ((prs ks).map fun q => if Q.contains q.1 && Q.contains q.2 then 1 else 0).sum = (prs (ks.filter fun x => Q.contains x)).length := fun Q _ => by
      rw [prs_filter, len_sum]
    have e4 : (C.map fun Q => ((prs ks).map fun q => if Q.contains q.1 && Q.contains q.2 then 1 else 0).sum) = C.map fun Q => (prs (ks.filter fun x => Q.contains x)).length := List.map_congr_left e3
    rw [e4]
    have e5 : (ks.map fun x => (C.map fun Q => if Q.contains x then 1 else 0).sum).sum = 1 * ks.length := sum_const _ 1 _ fun x hx => planes_parts C hC x (List.mem_range.mpr (hb x hx))
    rw [sum_swap, hl] at e5
    have e6 : (C.map fun Q => (ks.map fun x => if Q.contains x then 1 else 0).sum) = C.map fun Q => (ks.filter fun x => Q.contains x).length := List.map_congr_left fun Q _ => (len_sum _ _).symm
    rw [e6] at e5
    have l4 : ∀ Q ∈ C, (ks.filter fun x => Q.contains x).length ≤ 4 := fun Q hQ => by
      rw [← swap_filter (planes_nodup C hC Q hQ) hn]
      exact plane_le hf hC hQ
    have l3 := (planes_len.2 C hC).1
    obtain ⟨Q1, Q2, Q3, rfl⟩ : ∃ Q1 Q2 Q3, C = [Q1, Q2, Q3] := by
      match C, l3 with
      | [a, b, c], _ => exact ⟨a, b, c, rfl⟩
    simp only [List.map_cons, List.map_nil, List.sum_cons, List.sum_nil] at e5 ⊢
    have q1 := prs_len (ks.filter fun x => Q1.contains x)
    have q2 := prs_len (ks.filter fun x => Q2.contains x)
    have q3 := prs_len (ks.filter fun x => Q3.contains x)
    have a1 := l4 Q1 (.head _)
    have a2 := l4 Q2 (.tail _ (.head _))
    have a3 := l4 Q3 (.tail _ (.tail _ (.head _)))
    generalize (prs (ks.filter fun x => Q1.contains x)).length = p1 at *
    generalize (prs (ks.filter fun x => Q2.contains x)).length = p2 at *
    generalize (prs (ks.filter fun x => Q3.contains x)).length = p3 at *
    generalize (ks.filter fun x => Q1.contains x).length = m1 at *
    generalize (ks.filter fun x => Q2.contains x).length = m2 at *
    generalize (ks.filter fun x => Q3.contains x).length = m3 at *
    have c1 : m1 = 0 ∨ m1 = 1 ∨ m1 = 2 ∨ m1 = 3 ∨ m1 = 4 := by omega
    have c2 : m2 = 0 ∨ m2 = 1 ∨ m2 = 2 ∨ m2 = 3 ∨ m2 = 4 := by omega
    have c3 : m3 = 0 ∨ m3 = 1 ∨ m3 = 2 ∨ m3 = 3 ∨ m3 = 4 := by omega
    rcases c1 with rfl | rfl | rfl | rfl | rfl <;> rcases c2 with rfl | rfl | rfl | rfl | rfl <;> rcases c3 with rfl | rfl | rfl | rfl | rfl <;> omega
  have e7 := prs_len ks
  rw [hl] at e7
  rw [planes_len.1] at e2
  omega
theorem free_sub {ks js : List Nat} {l : List (Nat × Nat × Nat)} (h : ∀ a ∈ js, a ∈ ks) (hf : l.filter (inAll ks) = []) : l.filter (inAll js) = [] := by
  rw [List.filter_eq_nil_iff] at hf ⊢
  intro t ht hin
  refine hf t ht ?_
  unfold inAll at hin ⊢
  rw [Bool.and_eq_true, Bool.and_eq_true, List.contains_iff_mem, List.contains_iff_mem, List.contains_iff_mem] at hin ⊢
  exact ⟨h _ hin.1, h _ hin.2.1, h _ hin.2.2⟩
def mostN (n : Nat) : Nat := [2, 4, 9].getD (n - 1) 0
theorem cap {n : Nat} {ks : List Nat} (h : SetOk n ks) (hf : linesL n ks = []) : ks.length ≤ mostN n := by
  rw [linesT h] at hf
  have hsub := set_subs h
  rcases n3 h.1.1 with rfl | rfl | rfl
  · exact cap1 ks hsub (by rw [List.isEmpty_iff]; exact hf)
  · exact cap2 ks hsub (by rw [List.isEmpty_iff]; exact hf)
  · refine Nat.le_of_not_lt fun hlt => ?_
    have hlt : 9 < ks.length := hlt
    refine ten_no (ks := ks.take 10) (asc_of _ ((of_asc h.2).sublist (List.take_sublist _ _))) (fun k hk => h.1.2.1 k (List.mem_of_mem_take hk)) (free_sub (fun a ha => List.mem_of_mem_take ha) hf) ?_
    rw [List.length_take]
    omega
end PD

set_option Elab.async false
set_option linter.all false
set_option maxRecDepth 100000
set_option maxHeartbeats 4000000
/-! Lines through a place; pairs and lines. -/
namespace PD
open PySem
def thruL (n p : Nat) : List (Nat × Nat × Nat) := (TT n).filter fun t => [t.1, t.2.1, t.2.2].contains p
theorem hasT {n p a b c : Nat} (ha : a < 3 ^ n) (hb : b < 3 ^ n) (hc : c < 3 ^ n) (hp : p < 3 ^ n) : hasS [pd n a, pd n b, pd n c] (pd n p) = [a, b, c].contains p :=
  hasS_has (ks := [a, b, c]) (fun k hk => by
    simp only [List.mem_cons, List.not_mem_nil, or_false] at hk
    rcases hk with rfl | rfl | rfl <;> assumption) hp
theorem TT_all {n : Nat} (h : 1 ≤ n ∧ n ≤ 3) {t : Nat × Nat × Nat} (ht : t ∈ TT n) : t.1 < 3 ^ n ∧ t.2.1 < 3 ^ n ∧ t.2.2 < 3 ^ n := by
  have := TT_lt h t ht
  omega
theorem thru_eq {n p : Nat} (h : 1 ≤ n ∧ n ≤ 3) (hp : p < 3 ^ n) : ((linesL n (List.range (3 ^ n))).filter fun t => hasS [pd n t.1, pd n t.2.1, pd n t.2.2] (pd n p)) = thruL n p := by
  rw [lines_all h]
  exact List.filter_congr fun t ht => by
    have := TT_all h ht
    exact hasT this.1 this.2.1 this.2.2 hp
theorem thru_len {n p : Nat} : (thruL n p).length ≤ 117 := Nat.le_trans (List.length_filter_le _ _) TT_len
def togL (p : Nat) (ts : List (Nat × Nat × Nat)) : List Nat := ts.foldl (fun acc t => acc ++ [t.1, t.2.1, t.2.2].filter fun x => !decide (x = p)) []
theorem thru_laws1 : ∀ p ∈ List.range 3, (thruL 1 p).length * 2 = 2 ∧ 3 = (thruL 1 p).length * 3 ∧ sortN (togL p (thruL 1 p) ++ [p]) = List.range 3 := by decide +kernel
theorem thru_laws2 : ∀ p ∈ List.range 9, (thruL 2 p).length * 2 = 8 ∧ 36 = (thruL 2 p).length * 9 ∧ sortN (togL p (thruL 2 p) ++ [p]) = List.range 9 := by decide +kernel
theorem thru_laws3 : ∀ p ∈ List.range 27, (thruL 3 p).length * 2 = 26 ∧ 351 = (thruL 3 p).length * 27 ∧ sortN (togL p (thruL 3 p) ++ [p]) = List.range 27 := by decide +kernel
theorem TT_lens : (TT 1).length = 1 ∧ (TT 2).length = 12 ∧ (TT 3).length = 117 := by decide +kernel
theorem thru_laws {n p : Nat} (h : 1 ≤ n ∧ n ≤ 3) (hp : p < 3 ^ n) : (thruL n p).length * 2 = 3 ^ n - 1 ∧ (linesL n (List.range (3 ^ n))).length * 3 = (thruL n p).length * 3 ^ n ∧ sortN (togL p (thruL n p) ++ [p]) = List.range (3 ^ n) := by
  rw [lines_all h]
  rcases n3 h with rfl | rfl | rfl
  · exact thru_laws1 p (List.mem_range.mpr hp)
  · exact thru_laws2 p (List.mem_range.mpr hp)
  · exact thru_laws3 p (List.mem_range.mpr hp)
def flat3 (l : List (Nat × Nat × Nat)) : List (Nat × Nat × Nat) := l.flatMap fun t => [(t.1, t.2.1, t.2.2), (t.1, t.2.2, t.2.1), (t.2.1, t.2.2, t.1)]
def allP (n : Nat) : List (Nat × Nat × Nat) := (prs (List.range (3 ^ n))).map fun q => (q.1, q.2, thr n q.1 q.2)
theorem perm1 : (allP 1).isPerm (flat3 (TT 1)) = true := by decide +kernel
theorem perm2 : (allP 2).isPerm (flat3 (TT 2)) = true := by decide +kernel
theorem perm3 : (allP 3).isPerm (flat3 (TT 3)) = true := by decide +kernel
theorem flat3_len (ks : List Nat) : ∀ l : List (Nat × Nat × Nat), ((flat3 l).filter (inAll ks)).length = 3 * (l.filter (inAll ks)).length
  | [] => rfl
  | t :: r => by
    have ih := flat3_len ks r
    have e : flat3 (t :: r) = [(t.1, t.2.1, t.2.2), (t.1, t.2.2, t.2.1), (t.2.1, t.2.2, t.1)] ++ flat3 r := rfl
    rw [e, List.filter_append, List.length_append, ih, List.filter_cons (x := t)]
    have e1 : inAll ks (t.1, t.2.2, t.2.1) = inAll ks t := by
      unfold inAll
      cases ks.contains t.1 <;> cases ks.contains t.2.1 <;> cases ks.contains t.2.2 <;> rfl
    have e2 : inAll ks (t.2.1, t.2.2, t.1) = inAll ks t := by
      unfold inAll
      cases ks.contains t.1 <;> cases ks.contains t.2.1 <;> cases ks.contains t.2.2 <;> rfl
    have e3 : inAll ks (t.1, t.2.1, t.2.2) = inAll ks t := rfl
    simp only [List.filter_cons, List.filter_nil, e1, e2, e3]
    cases inAll ks t with
    | true => simp; omega
    | false => simp
theorem pair_lines {n : Nat} {ks : List Nat} (h : SetOk n ks) : ((prs ks).filter fun q => ks.contains (thr n q.1 q.2)).length = 3 * (linesL n ks).length := by
  have hp : (allP n).Perm (flat3 (TT n)) := by
    refine List.isPerm_iff.mp ?_
    rcases n3 h.1.1 with rfl | rfl | rfl
    · exact perm1
    · exact perm2
    · exact perm3
  have e := (hp.filter (inAll ks)).length_eq
  rw [flat3_len, ← linesT h] at e
  rw [← e]
  unfold allP
  rw [List.filter_map, List.length_map, prs_board h.2 h.1.2.1, List.filter_filter]
  congr 1
  refine List.filter_congr fun q _ => ?_
  unfold inAll
  simp only [Function.comp]
  cases ks.contains q.1 <;> cases ks.contains q.2 <;> cases ks.contains (thr n q.1 q.2) <;> rfl
end PD

set_option Elab.async false
set_option linter.all false
set_option maxRecDepth 100000
set_option maxHeartbeats 2000000
/-! What a law's own text leans on: the defs before it, called by their numbers. -/
namespace PD
open PySem
section
variable {G : List Fn} {L : List Int} {i : Nat} {f : Fn} {st : Store}
theorem draw_c (hg : G[i]? = some f) (k : IsDraw L f) (m : Nat) (hm : 0 < m) (town : List PyData) (rest : Store) (hl : town.length < 900000) : ∃ (v : Nat) (town' : List PyData), v < m ∧ town'.length ≤ town.length + 1 ∧ callI G i [.dat (script L), .loc 0, .dat (.int (m : Nat))] (.lst town :: rest) = .ok (.dat (.int (v : Nat))) (.lst town' :: rest) := by
  obtain ⟨v, h1, h2⟩ := drawN k (m := 0) (k := m) (st := .lst town :: rest) rfl hl hm
  exact ⟨v, town ++ [PyData.int 0], h1, by rw [List.length_append]; exact Nat.le_refl _, callI_of hg k.1.symm (by exact h2)⟩
theorem pick_c {α : Type} (hg : G[i]? = some f) (k : IsPick L f) (enc : α → PyData) (xs : List α) (hx : 0 < xs.length) (town : List PyData) (rest : Store) (hl : town.length < 900000) : ∃ (x : α) (town' : List PyData), x ∈ xs ∧ town'.length ≤ town.length + 1 ∧ callI G i [.dat (script L), .loc 0, .dat (.list (xs.map enc))] (.lst town :: rest) = .ok (.dat (enc x)) (.lst town' :: rest) := by
  obtain ⟨x, h1, h2⟩ := pickN k (m := 0) (enc := enc) (xs := xs) (st := .lst town :: rest) rfl hl hx
  exact ⟨x, town ++ [PyData.int 0], h1, by rw [List.length_append]; exact Nat.le_refl _, callI_of hg k.1.symm (by exact h2)⟩
theorem set_c (hg : G[i]? = some f) (k : IsSomeSet L f) (n most : Nat) (hn : 1 ≤ n ∧ n ≤ 3) (hm : most ≤ 100) (town : List PyData) (rest : Store) (hl : town.length ≤ 800000) : ∃ (ks : List Nat) (town' : List PyData), SetOk n ks ∧ ks.length ≤ most ∧ town'.length ≤ town.length + most + 2 ∧ callI G i [.dat (script L), .loc 0, .dat (.int (n : Nat)), .dat (.int (most : Nat))] (.lst town :: rest) = .ok (.dat (sd n ks)) (.lst town' :: rest) := by
  obtain ⟨ks, town', h1, h2, h3, h4⟩ := k.2 0 n most town (.lst town :: rest) rfl hl hn hm
  exact ⟨ks, town', h1, h2, h3, callI_of hg k.1.symm h4⟩
theorem Is2.c {c0 c2 : Nat} {out : Nat → List Nat → PyData ⊕ Nat} (k : Is2 c0 c2 out f) (hg : G[i]? = some f) {n : Nat} {ks : List Nat} (hs : SetOk n ks) (st : Store) : callI G i [.dat (.int (n : Nat)), .dat (sd n ks)] st = resD (out n ks) st := callI_of hg k.1.symm (k.2.1 n ks st hs)
theorem Is1.c {c0 : Nat} {out : Nat → PyData} (k : Is1 c0 out f) (hg : G[i]? = some f) {n : Nat} (hn : 1 ≤ n ∧ n ≤ 3) (st : Store) : callI G i [.dat (.int (n : Nat))] st = .ok (.dat (out n)) st := callI_of hg k.1.symm (k.2.1 n st hn)
theorem IsGrid.c (k : IsGrid f) (hg : G[i]? = some f) {n : Nat} (hn : 1 ≤ n ∧ n ≤ 3) (st : Store) : callI G i [.dat (.int (n : Nat))] st = .ok (.dat (.list (pds n (List.range (3 ^ n))))) st := callI_of hg k.1.symm (k.2 n st hn)
theorem IsThird.c {c0 c1 : Nat} (k : IsThird c0 c1 f) (hg : G[i]? = some f) {n a b : Nat} (hn : 1 ≤ n ∧ n ≤ 3) (ha : a < 3 ^ n) (hb : b < 3 ^ n) (hab : a ≠ b) (st : Store) : callI G i [.dat (.int (n : Nat)), .dat (pd n a), .dat (pd n b)] st = .ok (.dat (pd n (thr n a b))) st := callI_of hg k.1.symm (by rw [k.2.1 n a b st hn ha hb, if_neg hab])
end
theorem RtB.setV {G : List Fn} {env : Env} {st st1 : Store} {R : EV → Store → Prop} {i : Nat} {e : IE} {b : IB} {v : EV} (w : EV) (h : ev G e env st = .ok v st1) (hv : v = w) (p : RtB G b (env.set i (some w)) st1 R) : RtB G (.cons (.set i e) b) env st R := by
  subst hv
  exact RtB.set h p
theorem NxB.setV {G : List Fn} {env : Env} {st st1 : Store} {P : Env → Store → Prop} {i : Nat} {e : IE} {b : IB} {v : EV} (w : EV) (h : ev G e env st = .ok v st1) (hv : v = w) (p : NxB G b (env.set i (some w)) st1 P) : NxB G (.cons (.set i e) b) env st P := by
  subst hv
  exact NxB.set h p
theorem small_nat {n : Nat} (h : n < 2 ^ 64) : small (n : Int) = true := by
  unfold small
  rw [Bool.and_eq_true, decide_eq_true_eq, decide_eq_true_eq]
  omega
theorem pure_out {n : Nat} {ks : List Nat} (hl : ks.length + (outL n ks).length = 3 ^ n) : pureN n (outL n ks) = pureN n ks := by
  unfold pureN
  have e1 : ((outL n ks).length : Int) = ((3 ^ n : Nat) : Int) - ks.length := by omega
  rw [e1]
  congr 2
  rw [Int.mul_comm]
  congr 1
  omega
theorem r_iteI {G : List Fn} {env : Env} {st st1 : Store} {t a b : IE} {p : Bool} {i j : Int} (h : ev G t env st = .ok (.dat (.bool p)) st1) (h1 : ev G a env st1 = .ok (.dat (.int i)) st1) (h2 : ev G b env st1 = .ok (.dat (.int j)) st1) : ev G (.ite t a b) env st = .ok (.dat (.int (if p then i else j))) st1 := by
  rw [r_ite h (fun _ => h1) (fun _ => h2)]
  cases p <;> rfl
theorem foldl_count {α : Type} (p : α → Bool) : ∀ (l : List α) (a : Nat), l.foldl (fun m q => m + if p q then 1 else 0) a = a + (l.filter p).length
  | [], a => rfl
  | x :: r, a => by
    rw [List.foldl_cons, foldl_count p r, List.filter_cons]
    cases p x with
    | true => simp; omega
    | false => simp
theorem even_out {a c : Nat} (h : a ≤ c) (hc : c % 2 = 1) : ((a : Int) * ((c : Int) - a)) % 2 = 0 := by
  have e : (a : Int) * ((c : Int) - a) = ((a * (c - a) : Nat) : Int) := by
    rw [Int.natCast_mul, Int.natCast_sub h]
  rw [e]
  have : (a * (c - a)) % 2 = 0 := by
    rw [Nat.mul_mod]
    have h1 : a % 2 = 0 ∨ a % 2 = 1 := by omega
    rcases h1 with h1 | h1
    · rw [h1, Nat.zero_mul]
    · have : (c - a) % 2 = 0 := by omega
      rw [this, Nat.mul_zero]
  omega
theorem odd3 {n : Nat} (h : 1 ≤ n ∧ n ≤ 3) : 3 ^ n % 2 = 1 := by
  rcases n3 h with rfl | rfl | rfl <;> decide
theorem pds_len (n : Nat) (ks : List Nat) : (pds n ks).length = ks.length := by
  unfold pds
  rw [List.length_map]
theorem pds_map {n : Nat} (ks : List Nat) : ks.map (pd n) = pds n ks := rfl
theorem p27 {n : Nat} (h : 1 ≤ n ∧ n ≤ 3) : 3 ^ n ≤ 27 := Nat.le_trans (Nat.pow_le_pow_right (by decide) h.2) (by decide)
theorem p3 {n : Nat} (h : 1 ≤ n ∧ n ≤ 3) : 3 ≤ 3 ^ n := Nat.le_trans (by decide) (Nat.pow_le_pow_right (n := 3) (by decide) h.1)
theorem add1 (v : Nat) : binI .Add (.int 1) (.int (v : Nat)) = some (.int ((1 + v : Nat) : Int)) := by
  refine bi ?_
  show some (PyData.int (1 + (v : Nat))) = _
  rw [Int.natCast_add]
  rfl
theorem ix_of (n : Nat) (h : 1 ≤ n ∧ n ≤ 3) (a b c : Nat) : atD [.int (a : Nat), .int (b : Nat), .int (c : Nat)] ((n : Int) - 1) = some (.int (([a, b, c].getD (n - 1) 0 : Nat) : Int)) := by
  obtain rfl | rfl | rfl : n = 1 ∨ n = 2 ∨ n = 3 := by omega
  all_goals rfl
end PD

set_option Elab.async false
set_option linter.all false
set_option maxRecDepth 100000
set_option maxHeartbeats 4000000
/-! Moves lead lines to lines. -/
namespace PD
open PySem
/-- a move of the board of the size n -/
structure Mv (n : Nat) (f : Nat → Nat) : Prop where
  lt : ∀ a, a < 3 ^ n → f a < 3 ^ n
  inj : ∀ a b, a < 3 ^ n → b < 3 ^ n → f a = f b → a = b
  hom : ∀ a b, a < 3 ^ n → b < 3 ^ n → f (thr n a b) = thr n (f a) (f b)
theorem zip3 (g h : Nat → Nat → Nat) (key : ∀ a b p, a < 3 → b < 3 → p < 3 → g (h a b) p = h (g a p) (g b p)) : ∀ xs ys ps : List Nat, xs.length = ys.length → ys.length = ps.length → (∀ a ∈ xs, a < 3) → (∀ a ∈ ys, a < 3) → (∀ a ∈ ps, a < 3) → List.zipWith g (List.zipWith h xs ys) ps = List.zipWith h (List.zipWith g xs ps) (List.zipWith g ys ps)
  | [], [], [], _, _, _, _, _ => rfl
  | x :: xs, y :: ys, p :: ps, h1, h2, hx, hy, hp => by
    simp only [List.zipWith_cons_cons]
    rw [key x y p (hx x List.mem_cons_self) (hy y List.mem_cons_self) (hp p List.mem_cons_self), zip3 g h key xs ys ps (by simpa using h1) (by simpa using h2) (fun a ha => hx a (List.mem_cons_of_mem _ ha)) (fun a ha => hy a (List.mem_cons_of_mem _ ha)) fun a ha => hp a (List.mem_cons_of_mem _ ha)]
  | [], _ :: _, _, h, _, _, _, _ => by simp at h
  | _ :: _, [], _, h, _, _, _, _ => by simp at h
  | [], [], _ :: _, _, h, _, _, _ => by simp at h
  | _ :: _, _ :: _, [], _, h, _, _, _ => by simp at h
theorem zip_inj (g : Nat → Nat → Nat) (key : ∀ a b p, a < 3 → b < 3 → p < 3 → g a p = g b p → a = b) : ∀ xs ys ps : List Nat, xs.length = ys.length → ys.length = ps.length → (∀ a ∈ xs, a < 3) → (∀ a ∈ ys, a < 3) → (∀ a ∈ ps, a < 3) → List.zipWith g xs ps = List.zipWith g ys ps → xs = ys
  | [], [], [], _, _, _, _, _, _ => rfl
  | x :: xs, y :: ys, p :: ps, h1, h2, hx, hy, hp, e => by
    simp only [List.zipWith_cons_cons, List.cons.injEq] at e
    rw [key x y p (hx x List.mem_cons_self) (hy y List.mem_cons_self) (hp p List.mem_cons_self) e.1, zip_inj g key xs ys ps (by simpa using h1) (by simpa using h2) (fun a ha => hx a (List.mem_cons_of_mem _ ha)) (fun a ha => hy a (List.mem_cons_of_mem _ ha)) (fun a ha => hp a (List.mem_cons_of_mem _ ha)) e.2]
  | [], _ :: _, _, h, _, _, _, _, _ => by simp at h
  | _ :: _, [], _, h, _, _, _, _, _ => by simp at h
  | [], [], _ :: _, _, h, _, _, _, _ => by simp at h
  | _ :: _, _ :: _, [], _, h, _, _, _, _ => by simp at h
theorem mv_add (n p : Nat) : Mv n fun k => addP n k p := by
  refine ⟨fun a _ => opP_lt _ _ _ _, fun a b ha hb e => ?_, fun a b ha hb => ?_⟩
  · have e := congrArg (dig n) e
    unfold addP at e
    rw [dig_opP, dig_opP] at e
    refine dig_inj ha hb (zip_inj (fun a b => (a + b) % 3) (fun a b p _ _ _ _ => by omega) _ _ (dig n p) (by rw [dig_len, dig_len]) (by rw [dig_len, dig_len]) (dig_small n a) (dig_small n b) (dig_small n p) e)
  · refine dig_inj (opP_lt _ _ _ _) (thr_lt _ _ _) ?_
    unfold addP
    rw [dig_opP, dig_thr, dig_thr, dig_opP, dig_opP]
    exact zip3 (fun a b => (a + b) % 3) (fun a b => (6 - a - b) % 3) (fun a b p _ _ _ => by omega) _ _ _ (by rw [dig_len, dig_len]) (by rw [dig_len, dig_len]) (dig_small n a) (dig_small n b) (dig_small n p)
theorem mv_dbl (n : Nat) : Mv n fun k => dblP n k := by
  refine ⟨fun a _ => opP_lt _ _ _ _, fun a b ha hb e => ?_, fun a b ha hb => ?_⟩
  · have e := congrArg (dig n) e
    unfold dblP at e
    rw [dig_opP, dig_opP, zipW_same, zipW_same] at e
    have : ∀ xs ys : List Nat, (∀ a ∈ xs, a < 3) → (∀ a ∈ ys, a < 3) → xs.map (fun a => 2 * a % 3) = ys.map (fun a => 2 * a % 3) → xs = ys := by
      intro xs
      induction xs with
      | nil =>
        intro ys _ _ e
        cases ys with
        | nil => rfl
        | cons y r => simp at e
      | cons x r ih =>
        intro ys hx hy e
        cases ys with
        | nil => simp at e
        | cons y q =>
          simp only [List.map_cons, List.cons.injEq] at e
          have h1 := hx x List.mem_cons_self
          have h2 := hy y List.mem_cons_self
          rw [ih q (fun a ha => hx a (List.mem_cons_of_mem _ ha)) (fun a ha => hy a (List.mem_cons_of_mem _ ha)) e.2, show x = y by omega]
    exact dig_inj ha hb (this _ _ (dig_small n a) (dig_small n b) e)
  · refine dig_inj (opP_lt _ _ _ _) (thr_lt _ _ _) ?_
    unfold dblP
    rw [dig_opP, dig_thr, dig_thr, dig_opP, dig_opP, zipW_same, zipW_same, zipW_same, List.map_zipWith, List.zipWith_map]
    have : ∀ xs ys : List Nat, (∀ a ∈ xs, a < 3) → (∀ a ∈ ys, a < 3) → List.zipWith (fun x y => 2 * ((6 - x - y) % 3) % 3) xs ys = List.zipWith (fun x y => (6 - 2 * x % 3 - 2 * y % 3) % 3) xs ys := by
      intro xs
      induction xs with
      | nil => intro ys _ _; simp
      | cons x r ih =>
        intro ys hx hy
        cases ys with
        | nil => simp
        | cons y q =>
          simp only [List.zipWith_cons_cons]
          have h1 := hx x List.mem_cons_self
          have h2 := hy y List.mem_cons_self
          rw [ih q (fun a ha => hx a (List.mem_cons_of_mem _ ha)) (fun a ha => hy a (List.mem_cons_of_mem _ ha))]
          congr 1
          omega
    exact this _ _ (dig_small n a) (dig_small n b)
def mvOk (n : Nat) (f : Nat → Nat) : Bool := ((List.range (3 ^ n)).all fun a => Nat.blt (f a) (3 ^ n)) && (((List.range (3 ^ n)).all fun a => (List.range (3 ^ n)).all fun b => !Nat.beq (f a) (f b) || Nat.beq a b) && ((List.range (3 ^ n)).all fun a => (List.range (3 ^ n)).all fun b => Nat.beq (f (thr n a b)) (thr n (f a) (f b))))
theorem mv_of {n : Nat} {f : Nat → Nat} (h : mvOk n f = true) : Mv n f := by
  unfold mvOk at h
  simp only [Bool.and_eq_true, List.all_eq_true, List.mem_range, Bool.or_eq_true, Bool.not_eq_true'] at h
  refine ⟨fun a ha => Nat.blt_eq.mp (h.1 a ha), fun a b ha hb e => ?_, fun a b ha hb => Nat.eq_of_beq_eq_true (h.2.2 a ha b hb)⟩
  rcases h.2.1 a ha b hb with h | h
  · rw [e] at h
    rw [Nat.beq_refl] at h
    cases h
  · exact Nat.eq_of_beq_eq_true h
theorem mv_exc2 : ∀ i ∈ List.range 2, ∀ j ∈ List.range 2, i ≠ j → mvOk 2 (excP 2 i j) = true ∧ mvOk 2 (posP 2 i j) = true := by decide +kernel
theorem mv_exc3 : ∀ i ∈ List.range 3, ∀ j ∈ List.range 3, i ≠ j → mvOk 3 (excP 3 i j) = true ∧ mvOk 3 (posP 3 i j) = true := by decide +kernel
theorem mv_exc {n i j : Nat} (h : 1 ≤ n ∧ n ≤ 3) (hi : i < n) (hj : j < n) (hij : i ≠ j) : Mv n (excP n i j) ∧ Mv n (posP n i j) := by
  rcases n3 h with rfl | rfl | rfl
  · omega
  · have := mv_exc2 i (List.mem_range.mpr hi) j (List.mem_range.mpr hj) hij
    exact ⟨mv_of this.1, mv_of this.2⟩
  · have := mv_exc3 i (List.mem_range.mpr hi) j (List.mem_range.mpr hj) hij
    exact ⟨mv_of this.1, mv_of this.2⟩
/-- a set, moved -/
def moveL (f : Nat → Nat) (ks : List Nat) : List Nat := sortN (ks.map f)
theorem move_nodup {n : Nat} {f : Nat → Nat} (m : Mv n f) : ∀ {ks : List Nat}, (∀ k ∈ ks, k < 3 ^ n) → ks.Nodup → (ks.map f).Nodup
  | [], _, _ => List.nodup_nil
  | x :: r, h, hd => by
    rw [List.nodup_cons] at hd
    rw [List.map_cons, List.nodup_cons]
    refine ⟨fun hx => ?_, move_nodup m (fun k hk => h k (List.mem_cons_of_mem _ hk)) hd.2⟩
    obtain ⟨y, hy, e⟩ := List.mem_map.mp hx
    have := m.inj y x (h y (List.mem_cons_of_mem _ hy)) (h x List.mem_cons_self) e
    exact hd.1 (this ▸ hy)
theorem move_set {n : Nat} {f : Nat → Nat} (m : Mv n f) {ks : List Nat} (h : SetOk n ks) : SetOk n (moveL f ks) := by
  refine ⟨⟨h.1.1, fun k hk => ?_, by unfold moveL; rw [sortN_len, List.length_map]; exact h.1.2.2⟩, sortN_asc (move_nodup m h.1.2.1 (asc_nodup h.2))⟩
  obtain ⟨a, ha, rfl⟩ := List.mem_map.mp (sortN_mem.mp hk)
  exact m.lt a (h.1.2.1 a ha)
theorem move_len (f : Nat → Nat) (ks : List Nat) : (moveL f ks).length = ks.length := by
  unfold moveL
  rw [sortN_len, List.length_map]
theorem move_mem {f : Nat → Nat} {ks : List Nat} {a : Nat} : a ∈ moveL f ks ↔ ∃ k ∈ ks, f k = a := by
  unfold moveL
  rw [sortN_mem, List.mem_map]
theorem TT_has1 : ∀ a ∈ List.range 3, ∀ b ∈ List.range 3, a ≠ b → (TT 1).contains (sort3 a b (thr 1 a b)) = true := by decide +kernel
theorem TT_has2 : ∀ a ∈ List.range 9, ∀ b ∈ List.range 9, a ≠ b → (TT 2).contains (sort3 a b (thr 2 a b)) = true := by decide +kernel
theorem TT_has3 : ∀ a ∈ List.range 27, ∀ b ∈ List.range 27, a ≠ b → (TT 3).contains (sort3 a b (thr 3 a b)) = true := by decide +kernel
theorem TT_has {n a b : Nat} (h : 1 ≤ n ∧ n ≤ 3) (ha : a < 3 ^ n) (hb : b < 3 ^ n) (hab : a ≠ b) : sort3 a b (thr n a b) ∈ TT n := by
  rw [← List.contains_iff_mem]
  rcases n3 h with rfl | rfl | rfl
  · exact TT_has1 a (List.mem_range.mpr ha) b (List.mem_range.mpr hb) hab
  · exact TT_has2 a (List.mem_range.mpr ha) b (List.mem_range.mpr hb) hab
  · exact TT_has3 a (List.mem_range.mpr ha) b (List.mem_range.mpr hb) hab
theorem move_free {n : Nat} {f : Nat → Nat} (m : Mv n f) {ks : List Nat} (h : SetOk n ks) (hf : linesL n ks = []) : linesL n (moveL f ks) = [] := by
  rw [linesT h] at hf
  rw [linesT (move_set m h), List.filter_eq_nil_iff]
  intro t ht hin
  unfold inAll at hin
  rw [Bool.and_eq_true, Bool.and_eq_true, List.contains_iff_mem, List.contains_iff_mem, List.contains_iff_mem, move_mem, move_mem, move_mem] at hin
  obtain ⟨⟨a, ha, ea⟩, ⟨b, hb, eb⟩, ⟨c, hc, ec⟩⟩ := hin
  have hT := TT_lt h.1.1 t ht
  have la := h.1.2.1 a ha
  have lb := h.1.2.1 b hb
  have lc := h.1.2.1 c hc
  have hab : a ≠ b := fun e => by rw [e, eb] at ea; omega
  have e2 : c = thr n a b := m.inj c _ lc (thr_lt _ _ _) (by rw [m.hom a b la lb, ec, ea, eb]; exact hT.2.2.2)
  have hl := TT_has h.1.1 la lb hab
  refine (List.filter_eq_nil_iff.mp hf) _ hl ?_
  rw [inAll_sort3]
  unfold inAll
  rw [Bool.and_eq_true, Bool.and_eq_true, List.contains_iff_mem, List.contains_iff_mem, List.contains_iff_mem]
  exact ⟨ha, hb, e2 ▸ hc⟩
end PD

set_option Elab.async false
set_option linter.all false
set_option maxRecDepth 100000
set_option maxHeartbeats 4000000
/-! Sets in order; all sets that moves lead a set to, as a plain search. -/
namespace PD
open PySem
def lexN : List Nat → List Nat → Bool
  | x :: xs, y :: ys => if Nat.beq x y then lexN xs ys else Nat.blt x y
  | _, _ => false
theorem pd_alike (n j k : Nat) : W.alike (pd n j) (pd n k) = true := by
  unfold pd
  rw [W.alike]
  exact ints_alike _ _
theorem pd_eqv {n j k : Nat} (hj : j < 3 ^ n) (hk : k < 3 ^ n) : PyData.eqv (pd n j) (pd n k) = Nat.beq j k := by
  rw [itr_eqv 1 1 _ _ (pd_itr n j) (pd_itr n k), pd_same hj hk, Bool.eq_iff_iff, decide_eq_true_eq, Nat.beq_eq]
theorem sd_lt {n : Nat} : ∀ {a b : List Nat}, a.length = b.length → (∀ k ∈ a, k < 3 ^ n) → (∀ k ∈ b, k < 3 ^ n) → W.dataLt (sd n a) (sd n b) = lexN a b
  | [], [], _, _, _ => by
    show W.dataLt (.tuple []) (.tuple []) = false
    decide +kernel
  | [], _ :: _, h, _, _ => by simp at h
  | _ :: _, [], h, _, _ => by simp at h
  | x :: xs, y :: ys, h, ha, hb => by
    have ih := sd_lt (n := n) (a := xs) (b := ys) (by simpa using h) (fun k hk => ha k (List.mem_cons_of_mem _ hk)) fun k hk => hb k (List.mem_cons_of_mem _ hk)
    have hx := ha x List.mem_cons_self
    have hy := hb y List.mem_cons_self
    unfold sd at ih ⊢
    rw [W.dataLt_tuple] at ih ⊢
    have e1 : pds n (x :: xs) = pd n x :: pds n xs := rfl
    have e2 : pds n (y :: ys) = pd n y :: pds n ys := rfl
    rw [e1, e2, lexN]
    cases hxy : Nat.beq x y with
    | true =>
      rw [W.dataLt_all_yes (pd_alike n x y) (by rw [pd_eqv hx hy, hxy]), ih, if_pos rfl]
    | false =>
      rw [W.dataLt_all_no (pd_alike n x y) (by rw [pd_eqv hx hy, hxy]), pd_dataLt hx hy, if_neg Bool.false_ne_true, blt_dec]
theorem lex_irr : ∀ a : List Nat, lexN a a = false
  | [] => rfl
  | x :: r => by rw [lexN, Nat.beq_refl, if_pos rfl, lex_irr r]
theorem lex_asymm : ∀ {a b : List Nat}, lexN a b = true → lexN b a = false
  | [], _, h => by simp [lexN] at h
  | _ :: _, [], h => by simp [lexN] at h
  | x :: xs, y :: ys, h => by
    rw [lexN] at h ⊢
    by_cases e : x = y
    · subst e
      rw [Nat.beq_refl, if_pos rfl] at h ⊢
      exact lex_asymm h
    · have e1 : Nat.beq x y = false := by rw [Bool.eq_false_iff]; intro q; exact e (Nat.eq_of_beq_eq_true q)
      have e2 : Nat.beq y x = false := by rw [Bool.eq_false_iff]; intro q; exact e (Nat.eq_of_beq_eq_true q).symm
      rw [e1, if_neg Bool.false_ne_true, blt_dec, decide_eq_true_eq] at h
      rw [e2, if_neg Bool.false_ne_true, blt_dec, decide_eq_false_iff_not]
      omega
theorem lex_total : ∀ {a b : List Nat}, a.length = b.length → lexN a b = false → lexN b a = false → a = b
  | [], [], _, _, _ => rfl
  | [], _ :: _, h, _, _ => by simp at h
  | _ :: _, [], h, _, _ => by simp at h
  | x :: xs, y :: ys, h, h1, h2 => by
    rw [lexN] at h1 h2
    by_cases e : x = y
    · subst e
      rw [Nat.beq_refl, if_pos rfl] at h1 h2
      rw [lex_total (by simpa using h) h1 h2]
    · have e1 : Nat.beq x y = false := by rw [Bool.eq_false_iff]; intro q; exact e (Nat.eq_of_beq_eq_true q)
      have e2 : Nat.beq y x = false := by rw [Bool.eq_false_iff]; intro q; exact e (Nat.eq_of_beq_eq_true q).symm
      rw [e1, if_neg Bool.false_ne_true, blt_dec, decide_eq_false_iff_not] at h1
      rw [e2, if_neg Bool.false_ne_true, blt_dec, decide_eq_false_iff_not] at h2
      omega
def minS (a : List Nat) (r : List (List Nat)) : List Nat := r.foldl (fun a y => if lexN y a then y else a) a
theorem minS_mem : ∀ (r : List (List Nat)) (a : List Nat), minS a r ∈ a :: r
  | [], a => List.mem_cons_self
  | y :: r, a => by
    have ih := minS_mem r (if lexN y a then y else a)
    show minS (if lexN y a then y else a) r ∈ _
    rcases List.mem_cons.mp ih with h | h
    · rw [h]
      split
      · exact List.mem_cons_of_mem _ List.mem_cons_self
      · exact List.mem_cons_self
    · exact List.mem_cons_of_mem _ (List.mem_cons_of_mem _ h)
theorem lex_trans : ∀ {a b c : List Nat}, a.length = b.length → b.length = c.length → lexN b a = false → lexN c b = false → lexN c a = false
  | [], _, c, _, _, _, _ => by cases c <;> rfl
  | _ :: _, [], _, h, _, _, _ => by simp at h
  | _ :: _, _ :: _, [], _, h, _, _ => by simp at h
  | x :: xs, y :: ys, z :: zs, h1, h2, h3, h4 => by
    rw [lexN] at h3 h4 ⊢
    have nb : ∀ a b : Nat, Nat.beq a b = decide (a = b) := fun a b => by rw [Bool.eq_iff_iff, decide_eq_true_eq, Nat.beq_eq]
    rw [nb, blt_dec] at h3 h4 ⊢
    by_cases e1 : z = x
    · subst e1
      rw [if_pos (decide_eq_true rfl)]
      by_cases e2 : y = z
      · subst e2
        rw [if_pos (decide_eq_true rfl)] at h3 h4
        exact lex_trans (by simpa using h1) (by simpa using h2) h3 h4
      · rw [if_neg (by rw [decide_eq_true_eq]; omega), decide_eq_false_iff_not] at h3 h4
        omega
    · rw [if_neg (by rw [decide_eq_true_eq]; exact e1), decide_eq_false_iff_not]
      by_cases e2 : y = x
      · subst e2
        rw [if_neg (by rw [decide_eq_true_eq]; exact e1), decide_eq_false_iff_not] at h4
        exact h4
      · rw [if_neg (by rw [decide_eq_true_eq]; exact e2), decide_eq_false_iff_not] at h3
        by_cases e3 : z = y
        · omega
        · rw [if_neg (by rw [decide_eq_true_eq]; exact e3), decide_eq_false_iff_not] at h4
          omega
theorem minS_least : ∀ (r : List (List Nat)) (a : List Nat), (∀ y ∈ r, y.length = a.length) → ∀ y ∈ a :: r, lexN y (minS a r) = false
  | [], a, _, y, hy => by
    rw [List.mem_singleton.mp hy]
    exact lex_irr a
  | z :: r, a, hl, y, hy => by
    show lexN y (minS (if lexN z a then z else a) r) = false
    have hz : z.length = a.length := hl z List.mem_cons_self
    have hl2 : ∀ y ∈ r, y.length = (if lexN z a then z else a).length := fun y hy => by
      rw [hl y (List.mem_cons_of_mem _ hy)]
      split
      · exact hz.symm
      · rfl
    have ih := minS_least r (if lexN z a then z else a) hl2
    have hm := minS_mem r (if lexN z a then z else a)
    have hml : (minS (if lexN z a then z else a) r).length = a.length := by
      rcases List.mem_cons.mp hm with h | h
      · rw [h]
        split
        · exact hz
        · rfl
      · exact hl _ (List.mem_cons_of_mem _ h)
    rcases List.mem_cons.mp hy with rfl | hy
    · have h0 := ih _ List.mem_cons_self
      by_cases hc : lexN z y = true
      · rw [if_pos hc] at h0 ⊢
        rw [if_pos hc] at hml
        exact lex_trans (hml.trans hz.symm) hz h0 (lex_asymm hc)
      · rw [if_neg hc] at h0 ⊢
        exact h0
    · rcases List.mem_cons.mp hy with rfl | hy
      · have h0 := ih _ List.mem_cons_self
        by_cases hc : lexN y a = true
        · rw [if_pos hc] at h0 ⊢
          exact h0
        · rw [Bool.not_eq_true] at hc
          rw [hc, if_neg Bool.false_ne_true] at h0 hml ⊢
          exact lex_trans hml (by rw [hz]) h0 hc
      · exact ih y (List.mem_cons_of_mem _ hy)
/-! the search -/
def gensL (ks : List Nat) : List (List Nat) := [moveL (fun k => addP 2 k 1) ks, moveL (fun k => addP 2 k 3) ks, moveL (fun k => dblP 2 k) ks, moveL (fun k => excP 2 0 1 k) ks, moveL (fun k => posP 2 0 1 k) ks]
abbrev SS : Type := List (List Nat) × List (List Nat)
def addNew (s : SS) (a : List Nat) : SS := if s.1.contains a then s else (s.1 ++ [a], s.2 ++ [a])
def alikeStep (s : SS) : SS := match s.2.getLast? with
  | none => s
  | some h => (gensL h).foldl addNew (s.1, s.2.dropLast)
def alikeL (ks : List Nat) : List (List Nat) := (loopW (fun s : SS => !s.2.isEmpty) alikeStep 1600 ([ks], [ks])).1
theorem addNew_fold : ∀ (gs : List (List Nat)) (s : SS), ∃ news, gs.foldl addNew s = (s.1 ++ news, s.2 ++ news) ∧ (s.1.Nodup → (s.1 ++ news).Nodup) ∧ (∀ a ∈ news, a ∈ gs) ∧ ∀ g ∈ gs, g ∈ s.1 ++ news
  | [], s => ⟨[], by simp, by simp, by simp, by simp⟩
  | g :: gs, s => by
    rw [List.foldl_cons, show addNew s g = if s.1.contains g then s else (s.1 ++ [g], s.2 ++ [g]) from rfl]
    cases hc : s.1.contains g with
    | true =>
      rw [if_pos rfl]
      obtain ⟨news, h1, h2, h3, h4⟩ := addNew_fold gs s
      refine ⟨news, h1, h2, fun a ha => List.mem_cons_of_mem _ (h3 a ha), fun x hx => ?_⟩
      rcases List.mem_cons.mp hx with rfl | hx
      · exact List.mem_append_left _ (List.contains_iff_mem.mp hc)
      · exact h4 x hx
    | false =>
      rw [if_neg Bool.false_ne_true]
      obtain ⟨news, h1, h2, h3, h4⟩ := addNew_fold gs (s.1 ++ [g], s.2 ++ [g])
      refine ⟨g :: news, by rw [h1]; simp, fun hn => ?_, fun a ha => ?_, fun x hx => ?_⟩
      · have : (s.1 ++ [g]).Nodup := List.nodup_append.mpr ⟨hn, by simp, fun a ha b hb => by
          rw [List.mem_singleton] at hb
          subst hb
          intro e
          subst e
          rw [List.contains_iff_mem.mpr ha] at hc
          cases hc⟩
        have := h2 this
        rw [List.append_assoc] at this
        exact this
      · rcases List.mem_cons.mp ha with rfl | ha
        · exact List.mem_cons_self
        · exact List.mem_cons_of_mem _ (h3 a ha)
      · rcases List.mem_cons.mp hx with rfl | hx
        · simp
        · have := h4 x hx
          rw [List.append_assoc] at this
          exact this
theorem subs_len : ∀ l : List Nat, (subs l).length = 2 ^ l.length
  | [] => rfl
  | x :: r => by rw [subs, List.length_append, List.length_map, subs_len r, List.length_cons, Nat.pow_succ]; omega
theorem nodup_sub {α : Type} [DecidableEq α] : ∀ {l m : List α}, l.Nodup → (∀ a ∈ l, a ∈ m) → l.length ≤ m.length
  | [], _, _, _ => Nat.zero_le _
  | x :: r, m, h, hs => by
    rw [List.nodup_cons] at h
    have hx := hs x List.mem_cons_self
    have ih := nodup_sub (l := r) (m := m.erase x) h.2 fun a ha => by
      have hax : a ≠ x := fun e => h.1 (e ▸ ha)
      exact (List.mem_erase_of_ne hax).mpr (hs a (List.mem_cons_of_mem _ ha))
    rw [List.length_erase_of_mem hx] at ih
    have : 0 < m.length := List.length_pos_of_mem hx
    rw [List.length_cons]
    omega
/-- nodup, within, as many: all -/
theorem nodup_all {α : Type} [DecidableEq α] {l m : List α} (h : l.Nodup) (hs : ∀ a ∈ l, a ∈ m) (hl : m.length ≤ l.length) : ∀ a ∈ m, a ∈ l := fun a ha => by
  refine Classical.byContradiction fun hna => ?_
  have := nodup_sub (l := a :: l) (m := m) (List.nodup_cons.mpr ⟨hna, h⟩) fun b hb => by
    rcases List.mem_cons.mp hb with rfl | hb
    · exact ha
    · exact hs b hb
  rw [List.length_cons] at this
  omega
theorem sets_len {l : List (List Nat)} (h : l.Nodup) (hs : ∀ a ∈ l, SetOk 2 a) : l.length ≤ 512 := by
  have := nodup_sub h (m := subs (List.range (3 ^ 2))) fun a ha => set_subs (hs a ha)
  rw [subs_len] at this
  simpa using this
theorem gens_mv : Mv 2 (fun k => addP 2 k 1) ∧ Mv 2 (fun k => addP 2 k 3) ∧ Mv 2 (fun k => dblP 2 k) ∧ Mv 2 (fun k => excP 2 0 1 k) ∧ Mv 2 (fun k => posP 2 0 1 k) :=
  ⟨mv_add 2 1, mv_add 2 3, mv_dbl 2, (mv_exc (by decide) (by decide) (by decide) (by decide)).1, (mv_exc (by decide) (by decide) (by decide) (by decide)).2⟩
theorem gens_set {ks : List Nat} (h : SetOk 2 ks) : ∀ g ∈ gensL ks, SetOk 2 g := fun g hg => by
  unfold gensL at hg
  obtain ⟨m1, m2, m3, m4, m5⟩ := gens_mv
  simp only [List.mem_cons, List.not_mem_nil, or_false] at hg
  rcases hg with rfl | rfl | rfl | rfl | rfl
  · exact move_set m1 h
  · exact move_set m2 h
  · exact move_set m3 h
  · exact move_set m4 h
  · exact move_set m5 h
structure Srch (s : SS) : Prop where
  nd : s.1.Nodup
  ok : ∀ a ∈ s.1, SetOk 2 a
  sub : ∀ a ∈ s.2, a ∈ s.1
  done : ∀ a ∈ s.1, a ∈ s.2 ∨ ∀ g ∈ gensL a, g ∈ s.1
theorem last_split {α : Type} {l : List α} {h : α} (e : l.getLast? = some h) : l = l.dropLast ++ [h] := by
  have hne : l ≠ [] := fun q => by rw [q] at e; cases e
  have := List.dropLast_concat_getLast hne
  rw [List.getLast?_eq_some_getLast hne] at e
  cases e
  exact this.symm
theorem srch_step {s : SS} (h : Srch s) (hne : s.2 ≠ []) : Srch (alikeStep s) ∧ 2 * (512 - (alikeStep s).1.length) + (alikeStep s).2.length < 2 * (512 - s.1.length) + s.2.length ∧ (∀ a ∈ s.1, a ∈ (alikeStep s).1) ∧ ∀ a ∈ (alikeStep s).1, a ∈ s.1 ∨ ∃ b ∈ s.1, a ∈ gensL b := by
  cases hl : s.2.getLast? with
  | none => exact absurd (List.getLast?_eq_none_iff.mp hl) hne
  | some x =>
    have hs2 := last_split hl
    have hx : x ∈ s.1 := h.sub x (by rw [hs2]; simp)
    obtain ⟨news, h1, h2, h3, h4⟩ := addNew_fold (gensL x) (s.1, s.2.dropLast)
    dsimp only at h1 h2 h4
    have e : alikeStep s = (s.1 ++ news, s.2.dropLast ++ news) := by
      unfold alikeStep
      rw [hl]
      exact h1
    have hok : ∀ a ∈ s.1 ++ news, SetOk 2 a := fun a ha => by
      rcases List.mem_append.mp ha with ha | ha
      · exact h.ok a ha
      · exact gens_set (h.ok x hx) a (h3 a ha)
    have hnd := h2 h.nd
    have hlen := sets_len hnd hok
    rw [e]
    refine ⟨⟨hnd, hok, fun a ha => ?_, fun a ha => ?_⟩, ?_, fun a ha => List.mem_append_left _ ha, fun a ha => ?_⟩
    · rcases List.mem_append.mp ha with ha | ha
      · exact List.mem_append_left _ (h.sub a (List.dropLast_subset _ ha))
      · exact List.mem_append_right _ ha
    · rcases List.mem_append.mp ha with ha | ha
      · rcases h.done a ha with hd | hd
        · rw [hs2] at hd
          rcases List.mem_append.mp hd with hd | hd
          · exact .inl (List.mem_append_left _ hd)
          · rw [List.mem_singleton.mp hd]
            exact .inr h4
        · exact .inr fun g hg => List.mem_append_left _ (hd g hg)
      · exact .inl (List.mem_append_right _ ha)
    · rw [List.length_append] at hlen
      have : s.2.length = s.2.dropLast.length + 1 := by
        have := congrArg List.length hs2
        rw [List.length_append] at this
        exact this
      simp only [List.length_append]
      omega
    · rcases List.mem_append.mp ha with ha | ha
      · exact .inl ha
      · exact .inr ⟨x, hx, h3 a ha⟩
end PD

set_option Elab.async false
set_option linter.all false
set_option maxRecDepth 100000
set_option maxHeartbeats 4000000
/-! alike_to -/
namespace PD
open PySem
local macro_rules | `(tactic| array_get_dec) => `(tactic| first
  | assumption
  | exact List.mem_range.mp (by assumption)
  | exact rfl
  | omega
  | skip)
local macro_rules | `(tactic| clean_wf) => `(tactic| first
  | exact bi_add _ _
  | exact bi_sub _ _
  | exact bi_mod _ _ (by decide)
  | exact bi_div _ _ (by decide) (by decide)
  | exact bi_mul _ _ (.inr (by decide +kernel))
  | exact bi_mul _ _ (.inl (by decide +kernel))
  | (apply bi_cat <;> array_get_dec)
  | (apply bi_catT <;> array_get_dec)
  | (apply_assumption <;> array_get_dec)
  | skip)
local macro_rules | `(tactic| simp_wf) => `(tactic| first
  | exact ci_int _ _
  | exact ci_lt _ _
  | exact ci_gt _ _
  | exact ci_le _ _
  | exact ci_ge _ _
  | exact ci_isB _ _
  | (apply ci_ne <;> simp_wf)
  | (apply ci_nin <;> simp_wf)
  | (apply ci_isnot <;> simp_wf)
  | (apply ci_pdlt <;> array_get_dec)
  | (apply ci_eq <;> simp_wf)
  | (apply ci_in <;> simp_wf)
  | (apply ci_inT <;> simp_wf)
  | exact IT.int _
  | exact IT.of (pd_itr _ _) (by decide)
  | exact IT.of (sd_itr _ _) (by decide)
  | exact IT.of (tri_itr _ _) (by decide)
  | exact IT.of (linesD_itr _ _) (by decide)
  | (apply IT.list <;> simp_wf)
  | (apply IT.tuple <;> simp_wf)
  | exact ITs.nil
  | exact ITs.map (fun _ _ => pd_itr _ _) (by decide)
  | exact ITs.map (fun _ _ => tri_itr _ _) (by decide)
  | exact ITs.cons (pd_itr _ _) (by decide) (by simp_wf)
  | (apply ITs.append <;> simp_wf)
  | (apply_assumption <;> array_get_dec)
  | skip)
local macro_rules | `(tactic| bv_omega) => `(tactic| first
  | with_reducible exact ev_lit
  | ((with_reducible apply ev_var) <;> exact rfl)
  | with_reducible exact evs_nil
  | ((with_reducible apply r_evs) <;> bv_omega)
  | ((with_reducible apply r_call) <;> bv_omega)
  | ((with_reducible show callI _ _ _ _ = _); apply_assumption <;> array_get_dec)
  | ((with_reducible apply r_callIx) <;> bv_omega)
  | ((with_reducible apply r_bin) <;> bv_omega)
  | ((with_reducible apply r_cmp) <;> bv_omega)
  | ((with_reducible apply r_chain) <;> bv_omega)
  | ((with_reducible apply and_ok) <;> bv_omega)
  | ((with_reducible apply or_ok) <;> bv_omega)
  | ((with_reducible apply Eq.trans one_is) <;> bv_omega)
  | ((with_reducible apply not_ok) <;> bv_omega)
  | ((with_reducible apply r_ite) <;> bv_omega)
  | ((with_reducible apply r_neg) <;> bv_omega)
  | ((with_reducible apply r_tup) <;> bv_omega)
  | ((with_reducible apply r_lst) <;> bv_omega)
  | ((with_reducible apply r_newL) <;> bv_omega)
  | ((with_reducible apply r_blt) <;> bv_omega)
  | ((with_reducible apply r_ix) <;> bv_omega)
  | ((with_reducible apply r_slcF) <;> bv_omega)
  | ((with_reducible apply r_slcT) <;> bv_omega)
  | ((with_reducible apply r_slcB) <;> bv_omega)
  | ((with_reducible apply r_rev) <;> bv_omega)
  | ((with_reducible apply r_newLst) <;> bv_omega)
  | ((with_reducible apply r_isT) <;> bv_omega)
  | ((with_reducible apply r_map) <;> bv_omega)
  | ((with_reducible apply r_fil) <;> bv_omega)
  | ((with_reducible apply r_seq) <;> bv_omega)
  | ((with_reducible apply r_enum) <;> bv_omega)
  | ((with_reducible apply r_range) <;> bv_omega)
  | ((with_reducible show binI _ _ _ = _); clean_wf)
  | ((with_reducible show cmpI _ _ _ = _); simp_wf)
  | with_reducible exact dats_nil
  | ((with_reducible apply dats_cons) <;> bv_omega)
  | with_reducible exact rds_nil
  | ((with_reducible apply rds_cons) <;> bv_omega)
  | with_reducible exact rd_dat
  | ((with_reducible apply rd_loc) <;> exact rfl)
  | ((with_reducible apply cv_dat) <;> bv_omega)
  | ((with_reducible apply cv_in) <;> bv_omega)
  | ((with_reducible apply cv_nin) <;> bv_omega)
  | ((with_reducible apply cv_eq) <;> bv_omega)
  | ((with_reducible apply cv_ne) <;> bv_omega)
  | exact fun _ _ => rfl
  | ((with_reducible show guardOk _ _ = true); first | exact rfl | exact guard_self rfl)
  | exact rfl
  | (show List.length _ ≤ LIM; array_get_dec)
  | (intro _; bv_omega)
  | skip)
theorem pds_inj {n : Nat} : ∀ {a b : List Nat}, (∀ k ∈ a, k < 3 ^ n) → (∀ k ∈ b, k < 3 ^ n) → pds n a = pds n b → a = b
  | [], [], _, _, _ => rfl
  | [], _ :: _, _, _, h => by simp [pds] at h
  | _ :: _, [], _, _, h => by simp [pds] at h
  | x :: xs, y :: ys, ha, hb, h => by
    unfold pds at h
    rw [List.map_cons, List.map_cons, List.cons.injEq] at h
    rw [pd_inj (ha x List.mem_cons_self) (hb y List.mem_cons_self) h.1, pds_inj (fun k hk => ha k (List.mem_cons_of_mem _ hk)) (fun k hk => hb k (List.mem_cons_of_mem _ hk)) h.2]
theorem sd_same {n : Nat} {a b : List Nat} (ha : ∀ k ∈ a, k < 3 ^ n) (hb : ∀ k ∈ b, k < 3 ^ n) : same (sd n a) (sd n b) = (a == b) := by
  rw [Bool.eq_iff_iff, same_dec, beq_iff_eq]
  constructor
  · intro h
    unfold sd at h
    exact pds_inj ha hb (PyData.tuple.inj h)
  · intro h
    rw [h]
def kvS (n : Nat) (f : List (List Nat)) : List (PyData × PyData) := f.map fun a => (sd n a, .bool true)
theorem sd_key (n : Nat) (a : List Nat) : tupKey (sd n a) = true := by
  have h : ∀ a : List Nat, keysOk 5 (pds n a) = true := fun a => by
    induction a with
    | nil => rfl
    | cons x r ih =>
      show keysOk 5 (pd n x :: pds n r) = true
      rw [keysOk, ih, Bool.and_true]
      unfold pd
      rw [keyOk]
      exact keys_ints _ _
  unfold tupKey sd
  rw [keyOk, h]
  rfl
theorem look_kvS {n : Nat} {a : List Nat} (ha : ∀ k ∈ a, k < 3 ^ n) : ∀ {f : List (List Nat)}, (∀ b ∈ f, ∀ k ∈ b, k < 3 ^ n) → (lookD (kvS n f) (sd n a)).isSome = f.contains a
  | [], _ => rfl
  | b :: r, h => by
    have ih := look_kvS ha (f := r) fun b hb => h b (List.mem_cons_of_mem _ hb)
    show (lookD ((sd n b, .bool true) :: kvS n r) (sd n a)).isSome = _
    rw [lookD, sd_same (h b List.mem_cons_self) ha, List.contains_cons]
    have e : (a == b) = (b == a) := by rw [Bool.eq_iff_iff, beq_iff_eq, beq_iff_eq]; exact eq_comm
    rw [e]
    cases hb : (b == a) with
    | true => rfl
    | false =>
      rw [if_neg Bool.false_ne_true, Bool.false_or]
      exact ih
theorem put_kvS {n : Nat} {a : List Nat} (ha : ∀ k ∈ a, k < 3 ^ n) : ∀ {f : List (List Nat)}, (∀ b ∈ f, ∀ k ∈ b, k < 3 ^ n) → a ∉ f → putD (kvS n f) (sd n a) (.bool true) = kvS n (f ++ [a])
  | [], _, _ => rfl
  | b :: r, h, hn => by
    rw [List.mem_cons, not_or] at hn
    have ih := put_kvS ha (f := r) (fun b hb => h b (List.mem_cons_of_mem _ hb)) hn.2
    show putD ((sd n b, .bool true) :: kvS n r) (sd n a) (.bool true) = _
    rw [putD, sd_same (h b List.mem_cons_self) ha]
    have : (b == a) = false := by rw [beq_eq_false_iff_ne]; exact fun e => hn.1 e.symm
    rw [this, if_neg Bool.false_ne_true, ih]
    rfl
theorem cv_ninD {n : Nat} {k : PyData} {kvs : List (PyData × PyData)} {st : Store} (h : st[n]? = some (.dict kvs)) (hk : tupKey k = true) : cmpV .NotIn (.dat k) (.loc n) st = .ok (.dat (.bool (!(lookD kvs k).isSome))) st := by
  simp only [cmpV, h]
  rw [if_pos hk]
theorem r_pop {G : List Fn} {env : Env} {st st1 : Store} {o : IE} {n : Nat} {ds : List PyData} {d : PyData} (h1 : ev G o env st = .ok (.loc n) st1) (h2 : st1[n]? = some (.lst ds)) (h3 : ds.getLast? = some d) : ev G (.mth .pop o .nil) env st = .ok (.dat d) (st1.set n (.lst ds.dropLast)) := by
  have e2 : mthOk .pop (.loc n) st1 = true := by simp [mthOk, isLst, h2]
  rw [ev_mth, h1, bind_ok, if_pos e2, evs_nil, bind_ok]
  show popD st1 (.loc n) [] = _
  unfold popD
  simp only [h2, h3]
theorem r_dlist {G : List Fn} {env : Env} {st st1 : Store} {e : IE} {n : Nat} {kvs : List (PyData × PyData)} (h1 : ev G e env st = .ok (.loc n) st1) (h2 : st1[n]? = some (.dict kvs)) : ev G (.dlist e) env st = .ok (.dat (.list (kvs.map (·.1)))) st1 := by
  rw [ev, h1, bind_ok]
  unfold keysV
  simp only [h2]
theorem r_newD1 {G : List Fn} {env : Env} {st st1 st2 : Store} {k v : IE} {a b : PyData} (h1 : ev G k env st = .ok (.dat a) st1) (h2 : ev G v env st1 = .ok (.dat b) st2) (h : tupKey a = true) : ev G (.newD1 k v) env st = .ok (.loc st2.length) (st2 ++ [.dict [(a, b)]]) := by
  rw [ev, h1, bind_ok, h2, bind_ok]
  simp only
  rw [if_pos h]
def IsAlikeTo (f : Fn) : Prop := f.ar = 1 ∧ ∀ (ks : List Nat) (st : Store), SetOk 2 ks → f.den [.dat (sd 2 ks)] st = .ok (.dat (.list ((alikeL ks).map (sd 2)))) st
theorem alike_list (l : List (List Nat)) : cmpI .Eq (.list (l.map (sd 2))) (.list []) = some l.isEmpty := by
  rw [ci_eq (IT.list (ITs.map (fun _ _ => sd_itr _ _) (by decide))) (IT.list ITs.nil)]
  cases l <;> rfl
theorem isAlikeTo {nm : Str} {G : List Fn} {i1 i2 i3 i4 : Nat} {f1 f2 f3 f4 : Fn} (h1 : G[i1]? = some f1) (k1 : IsAdded f1) (h2 : G[i2]? = some f2) (k2 : IsDoubled f2) (h3 : G[i3]? = some f3) (k3 : IsMoved excP f3) (h4 : G[i4]? = some f4) (k4 : IsMoved posP f4) : IsAlikeTo ⟨nm, 1, runDef G 6 (b_alike_to i1 i2 i3 i4)⟩ := by
  refine ⟨rfl, fun ks st hs => run_rt ?_⟩
  have c1 : ∀ (p : Nat) (ks : List Nat) (st : Store), SetOk 2 ks → callI G i1 [.dat (sd 2 ks), .dat (pd 2 p)] st = .ok (.dat (sd 2 (moveL (fun k => addP 2 k p) ks))) st := fun p ks st h => callI_of h1 k1.1.symm (k1.2 2 ks p st h.1)
  have c2 : ∀ (ks : List Nat) (st : Store), SetOk 2 ks → callI G i2 [.dat (sd 2 ks)] st = .ok (.dat (sd 2 (moveL (fun k => dblP 2 k) ks))) st := fun ks st h => callI_of h2 k2.1.symm (k2.2 2 ks st h.1)
  have c3 : ∀ (ks : List Nat) (st : Store), SetOk 2 ks → callI G i3 [.dat (sd 2 ks), .dat (.int 0), .dat (.int 1)] st = .ok (.dat (sd 2 (moveL (fun k => excP 2 0 1 k) ks))) st := fun ks st h => callI_of h3 k3.1.symm (k3.2 2 ks 0 1 st h.1 (by decide) (by decide))
  have c4 : ∀ (ks : List Nat) (st : Store), SetOk 2 ks → callI G i4 [.dat (sd 2 ks), .dat (.int 0), .dat (.int 1)] st = .ok (.dat (sd 2 (moveL (fun k => posP 2 0 1 k) ks))) st := fun ks st h => callI_of h4 k4.1.symm (k4.2 2 ks 0 1 st h.1 (by decide) (by decide))
  have env0 : startE 6 [.dat (sd 2 ks)] = [some (.dat (sd 2 ks)), none, none, none, none, none] := rfl
  rw [env0, b_alike_to]
  refine RtB.set2 (r_newD1 (ev_var rfl) ev_lit (sd_key 2 ks)) (r_newL (r_evs (ev_var rfl) evs_nil) (dats_cons dats_nil)) ?_
  have el : (st ++ [Cell.dict [(sd 2 ks, .bool true)]]).length = st.length + 1 := by rw [List.length_append]; rfl
  have es : (st ++ [Cell.dict [(sd 2 ks, .bool true)]]) ++ [Cell.lst [sd 2 ks]] = st ++ [.dict (kvS 2 [ks]), .lst ([ks].map (sd 2))] := by rw [List.append_assoc]; rfl
  dsimp only [List.set]
  rw [el, es]
  have g0 : ∀ (x y : Cell), (st ++ [x, y])[st.length]? = some x := fun x y => by
    rw [List.getElem?_append_right (Nat.le_refl _), Nat.sub_self]; rfl
  have g1 : ∀ (x y : Cell), (st ++ [x, y])[st.length + 1]? = some y := fun x y => by
    rw [List.getElem?_append_right (by omega), Nat.add_sub_cancel_left]; rfl
  have s0 : ∀ (x y z : Cell), (st ++ [x, y]).set st.length z = st ++ [z, y] := fun x y z => by
    rw [List.set_append_right _ _ (Nat.le_refl _), Nat.sub_self]; rfl
  have s1 : ∀ (x y z : Cell), (st ++ [x, y]).set (st.length + 1) z = st ++ [x, z] := fun x y z => by
    rw [List.set_append_right _ _ (by omega), Nat.add_sub_cancel_left]; rfl
  refine RtB.cons (NxS.whl (σ := SS) (fun s env q => (Srch s ∧ 2 * (512 - s.1.length) + s.2.length ≤ 1600) ∧ q = st ++ [.dict (kvS 2 s.1), .lst (s.2.map (sd 2))] ∧ ∃ o3 o4 o5, env = [some (.dat (sd 2 ks)), some (.loc st.length), some (.loc (st.length + 1)), o3, o4, o5]) (fun s => 2 * (512 - s.1.length) + s.2.length) (fun s : SS => !s.2.isEmpty) alikeStep 1600 ([ks], [ks]) ⟨⟨⟨by simp, ?_, by simp, by simp⟩, by simp⟩, rfl, _, _, _, rfl⟩ (by simp) (by decide) ?_ ?_ ?_)
  · intro a ha
    rw [List.mem_singleton.mp ha]
    exact hs
  · rintro s env q ⟨hS, rfl, o3, o4, o5, rfl⟩
    exact r_cmp (ev_var rfl) (r_lst evs_nil dats_nil) (cv_ne (rd_loc (g1 _ _)) rd_dat (alike_list _))
  · rintro s env q ⟨⟨hS, hS2⟩, rfl, o3, o4, o5, rfl⟩ hc
    have hne : s.2 ≠ [] := fun e => by rw [e] at hc; cases hc
    have hstep := srch_step hS hne
    refine ⟨hstep.2.1, ?_⟩
    cases hl : s.2.getLast? with
    | none => exact absurd (List.getLast?_eq_none_iff.mp hl) hne
    | some x =>
      have hx : SetOk 2 x := hS.ok x (hS.sub x (by rw [last_split hl]; simp))
      have estep : alikeStep s = (gensL x).foldl addNew (s.1, s.2.dropLast) := by
        unfold alikeStep
        rw [hl]
      refine NxB.set (r_pop (d := sd 2 x) (ev_var rfl) (g1 _ _) (by rw [List.getLast?_map, hl]; rfl)) ?_
      rw [s1, ← List.map_dropLast]
      dsimp only [List.set]
      have hw := hx
      refine NxB.set (v := .dat (.list ([moveL (fun k => addP 2 k 1) x, moveL (fun k => addP 2 k 3) x, moveL (fun k => dblP 2 k) x, moveL (fun k => excP 2 0 1 k) x].map (sd 2)))) (r_lst (r_evs (r_call (r_evs (ev_var rfl) (r_evs (r_tup (r_evs ev_lit (r_evs ev_lit evs_nil)) (dats_cons (dats_cons dats_nil))) evs_nil)) (c1 1 x _ hx)) (r_evs (r_call (r_evs (ev_var rfl) (r_evs (r_tup (r_evs ev_lit (r_evs ev_lit evs_nil)) (dats_cons (dats_cons dats_nil))) evs_nil)) (c1 3 x _ hx)) (r_evs (r_call (r_evs (ev_var rfl) evs_nil) (c2 x _ hx)) (r_evs (r_call (r_evs (ev_var rfl) (r_evs ev_lit (r_evs ev_lit evs_nil))) (c3 x _ hx)) evs_nil)))) rfl) ?_
      dsimp only [List.set]
      have hgs := gens_set hx
      refine NxB.cons (NxS.loop (σ := SS) (enc := sd 2) (xs := gensL x) (src := none) (fun k s env q => s.1.length ≤ 512 + k ∧ s.2.length ≤ 100000 + k ∧ (∀ a ∈ s.1, SetOk 2 a) ∧ q = st ++ [.dict (kvS 2 s.1), .lst (s.2.map (sd 2))] ∧ ∃ o3 o4 o5, env = [some (.dat (sd 2 ks)), some (.loc st.length), some (.loc (st.length + 1)), o3, o4, o5]) addNew (s.1, s.2.dropLast) (st1 := st ++ [.dict (kvS 2 s.1), .lst (s.2.dropLast.map (sd 2))]) (r_seq (r_bin (ev_var rfl) (r_lst (r_evs (r_call (r_evs (ev_var rfl) (r_evs ev_lit (r_evs ev_lit evs_nil))) (c4 x _ hx)) evs_nil) (dats_cons dats_nil)) rd_dat rd_dat (bi_cat (by show 4 + 1 ≤ 1000000; decide))) rfl) (fun _ _ _ _ _ => rfl) ⟨?_, ?_, hS.ok, rfl, _, _, _, rfl⟩ ?_ ?_)
      · have := sets_len hS.nd hS.ok
        exact this
      · have h2 := hstep.2.1
        have := sets_len hstep.1.nd hstep.1.ok
        have l5 : (s.2.dropLast).length ≤ s.2.length := by rw [List.length_dropLast]; omega
        show s.2.dropLast.length ≤ _
        omega
      · rintro k s2 a env q hk ha ⟨hl1, hl2, hok, rfl, o3, o4, o5, rfl⟩
        refine ⟨_, rfl, ?_⟩
        dsimp only [List.set]
        have haS := hgs a ha
        have hf : ∀ b ∈ s2.1, ∀ k ∈ b, k < 3 ^ 2 := fun b hb => (hok b hb).1.2.1
        have t1 := r_cmp (G := G) (a := .var 5) (b := .var 1) (env := [some (.dat (sd 2 ks)), some (.loc st.length), some (.loc (st.length + 1)), o3, o4, some (.dat (sd 2 a))]) (st := st ++ [.dict (kvS 2 s2.1), .lst (s2.2.map (sd 2))]) (ev_var rfl) (ev_var rfl) (cv_ninD (g0 _ _) (sd_key 2 a))
        rw [look_kvS haS.1.2.1 hf] at t1
        have hk5 : k < 5 := hk
        cases hb : s2.1.contains a with
        | true =>
          rw [hb] at t1
          have e1 : addNew s2 a = s2 := by unfold addNew; rw [hb, if_pos rfl]
          refine NxB.cons (NxS.ifF t1 (NxB.nil (NxB.nil ?_)))
          rw [e1]
          exact ⟨by omega, by omega, hok, rfl, _, _, _, rfl⟩
        | false =>
          rw [hb] at t1
          have hna : a ∉ s2.1 := fun h => by rw [List.contains_iff_mem.mpr h] at hb; cases hb
          have e1 : addNew s2 a = (s2.1 ++ [a], s2.2 ++ [a]) := by unfold addNew; rw [hb, if_neg Bool.false_ne_true]
          refine NxB.cons (NxS.ifT t1 (NxB.cons (NxS.setIx (n := st.length) (kvs := kvS 2 s2.1) (key := sd 2 a) (d := .bool true) ev_lit (ev_var rfl) (ev_var rfl) (sd_key 2 a) (g0 _ _) (by unfold kvS; rw [List.length_map]; unfold LIM; omega) ?_)))
          rw [s0, put_kvS haS.1.2.1 hf hna]
          refine NxB.exp (r_app (ev_var rfl) ⟨_, g1 _ _⟩ (ev_var rfl) (g1 _ _) (by rw [List.length_map]; unfold LIM; omega)) ?_
          rw [s1]
          refine NxB.nil (NxB.nil ?_)
          rw [e1]
          refine ⟨by show (s2.1 ++ [a]).length ≤ _; rw [List.length_append, List.length_singleton]; omega, by show (s2.2 ++ [a]).length ≤ _; rw [List.length_append, List.length_singleton]; omega, ?_, by rw [List.map_append]; rfl, _, _, _, rfl⟩
          intro b hb
          rcases List.mem_append.mp hb with hb | hb
          · exact hok b hb
          · rw [List.mem_singleton.mp hb]
            exact haS
      · rintro e s1' ⟨_, _, _, rfl, o3, o4, o5, rfl⟩
        have hm2 := hstep.2.1
        refine NxB.nil ⟨⟨hstep.1, by omega⟩, ?_, _, _, _, rfl⟩
        rw [estep]
  · rintro e q ⟨⟨hS, _⟩, rfl, o3, o4, o5, rfl⟩
    refine RtB.ret (r_dlist (ev_var rfl) (g0 _ _)) ?_
    have e1 : List.map (fun x => x.fst) (kvS 2 (loopW (fun s : SS => !s.2.isEmpty) alikeStep 1600 ([ks], [ks])).1) = (alikeL ks).map (sd 2) := by
      unfold kvS alikeL
      rw [List.map_map]
      rfl
    rw [e1]
    exact fin_data
end PD

set_option Elab.async false
set_option linter.all false
set_option maxRecDepth 100000
set_option maxHeartbeats 4000000
/-! check_flat, kind, are_alike, free_sets -/
namespace PD
open PySem
local macro_rules | `(tactic| array_get_dec) => `(tactic| first
  | assumption
  | exact List.mem_range.mp (by assumption)
  | exact rfl
  | omega
  | skip)
local macro_rules | `(tactic| clean_wf) => `(tactic| first
  | exact bi_add _ _
  | exact bi_sub _ _
  | exact bi_mod _ _ (by decide)
  | exact bi_div _ _ (by decide) (by decide)
  | exact bi_mul _ _ (.inr (by decide +kernel))
  | exact bi_mul _ _ (.inl (by decide +kernel))
  | (apply bi_cat <;> array_get_dec)
  | (apply bi_catT <;> array_get_dec)
  | (apply_assumption <;> array_get_dec)
  | skip)
local macro_rules | `(tactic| simp_wf) => `(tactic| first
  | exact ci_int _ _
  | exact ci_lt _ _
  | exact ci_gt _ _
  | exact ci_le _ _
  | exact ci_ge _ _
  | exact ci_isB _ _
  | (apply ci_ne <;> simp_wf)
  | (apply ci_nin <;> simp_wf)
  | (apply ci_isnot <;> simp_wf)
  | (apply ci_pdlt <;> array_get_dec)
  | (apply ci_eq <;> simp_wf)
  | (apply ci_in <;> simp_wf)
  | (apply ci_inT <;> simp_wf)
  | exact IT.int _
  | exact IT.of (pd_itr _ _) (by decide)
  | exact IT.of (sd_itr _ _) (by decide)
  | exact IT.of (tri_itr _ _) (by decide)
  | exact IT.of (linesD_itr _ _) (by decide)
  | (apply IT.list <;> simp_wf)
  | (apply IT.tuple <;> simp_wf)
  | exact ITs.nil
  | exact ITs.map (fun _ _ => pd_itr _ _) (by decide)
  | exact ITs.map (fun _ _ => tri_itr _ _) (by decide)
  | exact ITs.cons (pd_itr _ _) (by decide) (by simp_wf)
  | (apply ITs.append <;> simp_wf)
  | (apply_assumption <;> array_get_dec)
  | skip)
local macro_rules | `(tactic| bv_omega) => `(tactic| first
  | with_reducible exact ev_lit
  | ((with_reducible apply ev_var) <;> exact rfl)
  | with_reducible exact evs_nil
  | ((with_reducible apply r_evs) <;> bv_omega)
  | ((with_reducible apply r_call) <;> bv_omega)
  | ((with_reducible show callI _ _ _ _ = _); apply_assumption <;> array_get_dec)
  | ((with_reducible apply r_callIx) <;> bv_omega)
  | ((with_reducible apply r_bin) <;> bv_omega)
  | ((with_reducible apply r_cmp) <;> bv_omega)
  | ((with_reducible apply r_chain) <;> bv_omega)
  | ((with_reducible apply and_ok) <;> bv_omega)
  | ((with_reducible apply or_ok) <;> bv_omega)
  | ((with_reducible apply Eq.trans one_is) <;> bv_omega)
  | ((with_reducible apply not_ok) <;> bv_omega)
  | ((with_reducible apply r_ite) <;> bv_omega)
  | ((with_reducible apply r_neg) <;> bv_omega)
  | ((with_reducible apply r_tup) <;> bv_omega)
  | ((with_reducible apply r_lst) <;> bv_omega)
  | ((with_reducible apply r_newL) <;> bv_omega)
  | ((with_reducible apply r_blt) <;> bv_omega)
  | ((with_reducible apply r_ix) <;> bv_omega)
  | ((with_reducible apply r_slcF) <;> bv_omega)
  | ((with_reducible apply r_slcT) <;> bv_omega)
  | ((with_reducible apply r_slcB) <;> bv_omega)
  | ((with_reducible apply r_rev) <;> bv_omega)
  | ((with_reducible apply r_newLst) <;> bv_omega)
  | ((with_reducible apply r_isT) <;> bv_omega)
  | ((with_reducible apply r_map) <;> bv_omega)
  | ((with_reducible apply r_fil) <;> bv_omega)
  | ((with_reducible apply r_seq) <;> bv_omega)
  | ((with_reducible apply r_enum) <;> bv_omega)
  | ((with_reducible apply r_range) <;> bv_omega)
  | ((with_reducible show binI _ _ _ = _); clean_wf)
  | ((with_reducible show cmpI _ _ _ = _); simp_wf)
  | with_reducible exact dats_nil
  | ((with_reducible apply dats_cons) <;> bv_omega)
  | with_reducible exact rds_nil
  | ((with_reducible apply rds_cons) <;> bv_omega)
  | with_reducible exact rd_dat
  | ((with_reducible apply rd_loc) <;> exact rfl)
  | ((with_reducible apply cv_dat) <;> bv_omega)
  | ((with_reducible apply cv_in) <;> bv_omega)
  | ((with_reducible apply cv_nin) <;> bv_omega)
  | ((with_reducible apply cv_eq) <;> bv_omega)
  | ((with_reducible apply cv_ne) <;> bv_omega)
  | exact fun _ _ => rfl
  | ((with_reducible show guardOk _ _ = true); first | exact rfl | exact guard_self rfl)
  | exact rfl
  | (show List.length _ ≤ LIM; array_get_dec)
  | (intro _; bv_omega)
  | skip)
theorem loopW_inv {σ : Type} {c : σ → Bool} {step : σ → σ} (P : σ → Prop) (h : ∀ s, P s → c s = true → P (step s)) : ∀ (k : Nat) (s : σ), P s → P (loopW c step k s)
  | 0, s, hp => hp
  | k + 1, s, hp => by
    rw [loopW]
    cases hc : c s with
    | true => exact loopW_inv P h k (step s) (h s hp hc)
    | false => exact hp
theorem loopW_done {σ : Type} {c : σ → Bool} {step : σ → σ} (P : σ → Prop) (m : σ → Nat) (h : ∀ s, P s → c s = true → P (step s) ∧ m (step s) < m s) : ∀ (k : Nat) (s : σ), P s → m s < k → c (loopW c step k s) = false
  | 0, s, _, hm => by omega
  | k + 1, s, hp, hm => by
    rw [loopW]
    cases hc : c s with
    | true =>
      have := h s hp hc
      exact loopW_done P m h k (step s) this.1 (by omega)
    | false => exact hc
theorem gens_len {ks : List Nat} : ∀ g ∈ gensL ks, g.length = ks.length := fun g hg => by
  unfold gensL at hg
  simp only [List.mem_cons, List.not_mem_nil, or_false] at hg
  rcases hg with rfl | rfl | rfl | rfl | rfl <;> exact move_len _ _
/-- what a search from ks finds -/
theorem alike_all {ks : List Nat} (h : SetOk 2 ks) (P : List Nat → Prop) (h0 : P ks) (hg : ∀ a, SetOk 2 a → P a → ∀ g ∈ gensL a, P g) : (alikeL ks).Nodup ∧ (∀ a ∈ alikeL ks, SetOk 2 a ∧ P a) ∧ ks ∈ alikeL ks ∧ ∀ a ∈ alikeL ks, ∀ g ∈ gensL a, g ∈ alikeL ks := by
  let I : SS → Prop := fun s => Srch s ∧ (∀ a ∈ s.1, P a) ∧ ks ∈ s.1
  have hstep : ∀ s, I s → (!s.2.isEmpty) = true → I (alikeStep s) ∧ 2 * (512 - (alikeStep s).1.length) + (alikeStep s).2.length < 2 * (512 - s.1.length) + s.2.length := fun s ⟨i1, i2, i3⟩ hc => by
    have hne : s.2 ≠ [] := fun e => by rw [e] at hc; cases hc
    obtain ⟨j1, j2, j3, j4⟩ := srch_step i1 hne
    refine ⟨⟨j1, fun a ha => ?_, j3 ks i3⟩, j2⟩
    rcases j4 a ha with ha | ⟨b, hb, hab⟩
    · exact i2 a ha
    · exact hg b (i1.ok b hb) (i2 b hb) a hab
  have i0 : I ([ks], [ks]) := ⟨⟨by simp, by simpa using h, by simp, by simp⟩, by simpa using h0, by simp⟩
  have r1 := loopW_inv (c := fun s : SS => !s.2.isEmpty) (step := alikeStep) I (fun s hi hc => (hstep s hi hc).1) 1600 _ i0
  have r2 := loopW_done (c := fun s : SS => !s.2.isEmpty) (step := alikeStep) I (fun s => 2 * (512 - s.1.length) + s.2.length) hstep 1600 _ i0 (by simp)
  refine ⟨r1.1.nd, fun a ha => ⟨r1.1.ok a ha, r1.2.1 a ha⟩, r1.2.2, fun a ha => ?_⟩
  rcases r1.1.done a ha with hd | hd
  · rw [Bool.not_eq_false', List.isEmpty_iff] at r2
    rw [r2] at hd
    simp at hd
  · exact hd
theorem alike_len {ks : List Nat} (h : SetOk 2 ks) : ∀ a ∈ alikeL ks, SetOk 2 a ∧ a.length = ks.length := (alike_all h (fun a => a.length = ks.length) rfl fun a _ ha g hg => (gens_len g hg).trans ha).2.1
def kindL (ks : List Nat) : List Nat := match alikeL ks with
  | [] => []
  | a :: r => minS a r
theorem minD_sd {n : Nat} : ∀ (r : List (List Nat)) (a : List Nat), (∀ k ∈ a, k < 3 ^ n) → (∀ y ∈ r, y.length = a.length ∧ ∀ k ∈ y, k < 3 ^ n) → W.minD (sd n a) (r.map (sd n)) = sd n (minS a r)
  | [], a, _, _ => rfl
  | y :: r, a, ha, h => by
    have hy := h y List.mem_cons_self
    have hlt : W.dataLt (sd n y) (sd n a) = lexN y a := sd_lt hy.1 hy.2 ha
    have e : W.minD (sd n a) ((y :: r).map (sd n)) = W.minD (if W.dataLt (sd n y) (sd n a) then sd n y else sd n a) (r.map (sd n)) := rfl
    have e2 : minS a (y :: r) = minS (if lexN y a then y else a) r := rfl
    rw [e, e2, hlt]
    cases lexN y a with
    | true =>
      exact minD_sd r y hy.2 fun z hz => ⟨(h z (List.mem_cons_of_mem _ hz)).1.trans hy.1.symm, (h z (List.mem_cons_of_mem _ hz)).2⟩
    | false => exact minD_sd r a ha fun z hz => h z (List.mem_cons_of_mem _ hz)
theorem ofKs_sds (n : Nat) : ∀ l : List (List Nat), ofKs 2 (l.map (sd n)) = true
  | [] => by rw [List.map_nil, ofKs]
  | x :: r => by
    rw [List.map_cons, ofKs, ofKs_sds n r, Bool.and_true]
    unfold sd
    rw [ofK]
    exact ofKs_pds n x
theorem depth_sds (n : Nat) (l : List (List Nat)) : PyData.depthAll (l.map (sd n)) ≤ 64 := by
  have : itrs 2 (l.map (sd n)) = true := itrs_of fun y hy => by
    obtain ⟨x, _, rfl⟩ := List.mem_map.mp hy
    exact sd_itr n x
  have := (itrs_shape 2 _ this).2
  omega
theorem min_sets {n : Nat} {a : List Nat} {r : List (List Nat)} (hl : r.length ≤ 1000) (ha : ∀ k ∈ a, k < 3 ^ n) (h : ∀ y ∈ r, y.length = a.length ∧ ∀ k ∈ y, k < 3 ^ n) : bltD .minD [.list ((a :: r).map (sd n))] = some (sd n (minS a r)) := by
  show minLD (.list (sd n a :: r.map (sd n))) = _
  unfold minLD
  have hok : minOk (sd n a :: r.map (sd n)) = true := by
    unfold minOk
    have e1 : alikes (sd n a :: r.map (sd n)) = true := by
      unfold alikes
      rw [show sd n a :: r.map (sd n) = (a :: r).map (sd n) from rfl, ofKs_sds]
      simp
    have e2 : ((sd n a :: r.map (sd n)).all fun e => !isNone e) = true := by
      rw [List.all_eq_true]
      intro x hx
      obtain ⟨y, _, rfl⟩ := List.mem_map.mp (show x ∈ (a :: r).map (sd n) from hx)
      rfl
    have e3 : PyData.depthAll (sd n a :: r.map (sd n)) ≤ 64 := depth_sds n (a :: r)
    rw [e1, e2, decide_eq_true (show (sd n a :: r.map (sd n)).length ≤ LIM by rw [List.length_cons, List.length_map]; unfold LIM; omega), decide_eq_true e3]
    rfl
  show (if minOk (sd n a :: r.map (sd n)) then some (W.minD (sd n a) (r.map (sd n))) else none) = _
  rw [if_pos hok, minD_sd r a ha h]
def IsFlat (c2 : Nat) (f : Fn) : Prop := f.ar = 1 ∧ (∀ (ks : List Nat) (st : Store), SetOk 2 ks → f.den [.dat (sd 2 ks)] st = .ok (.dat .none) st) ∧ ∀ (d : PyData) (st : Store), NoSet 2 d → f.den [.dat d] st = .exc c2 st
theorem isCheckFlat {nm : Str} {G : List Fn} {i c2 : Nat} {f : Fn} (hf : G[i]? = some f) (h : IsLies f) : IsFlat c2 ⟨nm, 1, runDef G 1 (b_check_flat i c2)⟩ := by
  refine ⟨rfl, fun ks st hs => ?_, fun d st hd => ?_⟩
  · have c := h.2.1 2 ks st hs.1
    rw [hs.2] at c
    refine run_nx (env := [some (.dat (sd 2 ks))]) ?_
    rw [show startE 1 [.dat (sd 2 ks)] = [some (.dat (sd 2 ks))] from rfl, b_check_flat]
    exact (ifF_ex (not_ok (callE_ok (evs2_ok ev_lit (ev_var rfl)) hf h.1.symm c))).trans rfl
  · have c : f.den [.dat (.int 2), .dat d] st = .ok (.dat (.bool false)) st := by
      rcases hd with hd | ⟨ks, rfl, hb, ha⟩
      · exact h.2.2 2 d st hd
      · rw [← ha]
        exact h.2.1 2 ks st hb
    refine run_exc ?_
    rw [show startE 1 [.dat d] = [some (.dat d)] from rfl, b_check_flat]
    exact ifT_exc (not_ok (callE_ok (evs2_ok ev_lit (ev_var rfl)) hf h.1.symm c))
def IsKind (c2 : Nat) (f : Fn) : Prop := f.ar = 1 ∧ (∀ (ks : List Nat) (st : Store), SetOk 2 ks → f.den [.dat (sd 2 ks)] st = .ok (.dat (sd 2 (kindL ks))) st) ∧ ∀ (d : PyData) (st : Store), NoSet 2 d → f.den [.dat d] st = .exc c2 st
theorem isKind {nm : Str} {G : List Fn} {i j c2 : Nat} {f g : Fn} (hf : G[i]? = some f) (h : IsAlikeTo f) (hg : G[j]? = some g) (k : IsFlat c2 g) : IsKind c2 ⟨nm, 1, runDef G 1 (b_kind i j)⟩ := by
  refine ⟨rfl, fun ks st hs => run_dat ?_, fun d st hd => run_exc ?_⟩
  · rw [show startE 1 [.dat (sd 2 ks)] = [some (.dat (sd 2 ks))] from rfl, b_kind]
    refine (seq_nx (exp_ok (callE_ok (evs1_ok (ev_var rfl)) hg k.1.symm (k.2.1 ks st hs)))).trans (seq_ret (ret_ok ?_))
    refine r_blt (evs1_ok (callE_ok (evs1_ok (ev_var rfl)) hf h.1.symm (h.2 ks st hs))) (rds_cons rd_dat rds_nil) ?_
    have hl := alike_len hs
    have hA := alike_all hs (fun _ => True) trivial fun _ _ _ _ _ => trivial
    have hlen := sets_len hA.1 fun a ha => (hl a ha).1
    unfold kindL
    cases e : alikeL ks with
    | nil =>
      have := hA.2.2.1
      rw [e] at this
      simp at this
    | cons a r =>
      rw [e] at hl hlen
      have la := hl a List.mem_cons_self
      exact min_sets (by simp at hlen; omega) la.1.1.2.1 fun y hy => ⟨((hl y (List.mem_cons_of_mem _ hy)).2).trans la.2.symm, (hl y (List.mem_cons_of_mem _ hy)).1.1.2.1⟩
  · rw [show startE 1 [.dat d] = [some (.dat d)] from rfl, b_kind]
    exact exp_exc (callE_exc (evs1_ok (ev_var rfl)) hg k.1.symm (k.2.2 d st hd))
def IsAreAlike (c2 : Nat) (f : Fn) : Prop := f.ar = 2 ∧ (∀ (ks js : List Nat) (st : Store), SetOk 2 ks → SetOk 2 js → f.den [.dat (sd 2 ks), .dat (sd 2 js)] st = .ok (.dat (.bool ((alikeL ks).contains js))) st) ∧ (∀ (d e : PyData) (st : Store), NoSet 2 d → f.den [.dat d, .dat e] st = .exc c2 st) ∧ ∀ (ks : List Nat) (e : PyData) (st : Store), SetOk 2 ks → NoSet 2 e → f.den [.dat (sd 2 ks), .dat e] st = .exc c2 st
theorem has_sds {n : Nat} {a : List Nat} (ha : ∀ k ∈ a, k < 3 ^ n) {f : List (List Nat)} (h : ∀ b ∈ f, ∀ k ∈ b, k < 3 ^ n) : hasS (f.map (sd n)) (sd n a) = f.contains a := by
  unfold hasS
  rw [Bool.eq_iff_iff, List.any_eq_true, List.contains_iff_mem]
  constructor
  · rintro ⟨y, hy, e⟩
    obtain ⟨b, hb, rfl⟩ := List.mem_map.mp hy
    rw [sd_same (h b hb) ha, beq_iff_eq] at e
    exact e ▸ hb
  · intro hm
    exact ⟨_, List.mem_map.mpr ⟨a, hm, rfl⟩, same_refl _⟩
theorem isAreAlike {nm : Str} {G : List Fn} {i j c2 : Nat} {f g : Fn} (hf : G[i]? = some f) (h : IsAlikeTo f) (hg : G[j]? = some g) (k : IsFlat c2 g) : IsAreAlike c2 ⟨nm, 2, runDef G 2 (b_are_alike i j)⟩ := by
  refine ⟨rfl, fun ks js st hs hj => run_dat ?_, fun d e st hd => run_exc ?_, fun ks e st hs he => run_exc ?_⟩
  · rw [show startE 2 [.dat (sd 2 ks), .dat (sd 2 js)] = [some (.dat (sd 2 ks)), some (.dat (sd 2 js))] from rfl, b_are_alike]
    refine (seq_nx (exp_ok (callE_ok (evs1_ok (ev_var rfl)) hg k.1.symm (k.2.1 ks st hs)))).trans ?_
    refine (seq_nx (exp_ok (callE_ok (evs1_ok (ev_var rfl)) hg k.1.symm (k.2.1 js st hj)))).trans (seq_ret (ret_ok ?_))
    refine r_cmp (ev_var rfl) (callE_ok (evs1_ok (ev_var rfl)) hf h.1.symm (h.2 ks st hs)) (cv_dat ?_)
    rw [ci_in (IT.of (sd_itr 2 js) (by decide)) (ITs.map (fun _ _ => sd_itr _ _) (by decide)), has_sds hj.1.2.1 fun b hb => (alike_len hs b hb).1.1.2.1]
  · rw [show startE 2 [.dat d, .dat e] = [some (.dat d), some (.dat e)] from rfl, b_are_alike]
    exact exp_exc (callE_exc (evs1_ok (ev_var rfl)) hg k.1.symm (k.2.2 d st hd))
  · rw [show startE 2 [.dat (sd 2 ks), .dat e] = [some (.dat (sd 2 ks)), some (.dat e)] from rfl, b_are_alike]
    refine (seq_nx (exp_ok (callE_ok (evs1_ok (ev_var rfl)) hg k.1.symm (k.2.1 ks st hs)))).trans ?_
    exact exp_exc (callE_exc (evs1_ok (ev_var rfl)) hg k.1.symm (k.2.2 e st he))
end PD

set_option Elab.async false
set_option linter.all false
set_option maxRecDepth 100000
set_option maxHeartbeats 4000000
/-! free_sets, kinds -/
namespace PD
open PySem
local macro_rules | `(tactic| array_get_dec) => `(tactic| first
  | assumption
  | exact List.mem_range.mp (by assumption)
  | exact rfl
  | omega
  | skip)
local macro_rules | `(tactic| clean_wf) => `(tactic| first
  | exact bi_add _ _
  | exact bi_sub _ _
  | exact bi_mod _ _ (by decide)
  | exact bi_div _ _ (by decide) (by decide)
  | exact bi_mul _ _ (.inr (by decide +kernel))
  | exact bi_mul _ _ (.inl (by decide +kernel))
  | (apply bi_cat <;> array_get_dec)
  | (apply bi_catT <;> array_get_dec)
  | (apply_assumption <;> array_get_dec)
  | skip)
local macro_rules | `(tactic| simp_wf) => `(tactic| first
  | exact ci_int _ _
  | exact ci_lt _ _
  | exact ci_gt _ _
  | exact ci_le _ _
  | exact ci_ge _ _
  | exact ci_isB _ _
  | (apply ci_ne <;> simp_wf)
  | (apply ci_nin <;> simp_wf)
  | (apply ci_isnot <;> simp_wf)
  | (apply ci_pdlt <;> array_get_dec)
  | (apply ci_eq <;> simp_wf)
  | (apply ci_in <;> simp_wf)
  | (apply ci_inT <;> simp_wf)
  | exact IT.int _
  | exact IT.of (pd_itr _ _) (by decide)
  | exact IT.of (sd_itr _ _) (by decide)
  | exact IT.of (tri_itr _ _) (by decide)
  | exact IT.of (linesD_itr _ _) (by decide)
  | (apply IT.list <;> simp_wf)
  | (apply IT.tuple <;> simp_wf)
  | exact ITs.nil
  | exact ITs.map (fun _ _ => pd_itr _ _) (by decide)
  | exact ITs.map (fun _ _ => tri_itr _ _) (by decide)
  | exact ITs.cons (pd_itr _ _) (by decide) (by simp_wf)
  | (apply ITs.append <;> simp_wf)
  | (apply_assumption <;> array_get_dec)
  | skip)
local macro_rules | `(tactic| bv_omega) => `(tactic| first
  | with_reducible exact ev_lit
  | ((with_reducible apply ev_var) <;> exact rfl)
  | with_reducible exact evs_nil
  | ((with_reducible apply r_evs) <;> bv_omega)
  | ((with_reducible apply r_call) <;> bv_omega)
  | ((with_reducible show callI _ _ _ _ = _); apply_assumption <;> array_get_dec)
  | ((with_reducible apply r_callIx) <;> bv_omega)
  | ((with_reducible apply r_bin) <;> bv_omega)
  | ((with_reducible apply r_cmp) <;> bv_omega)
  | ((with_reducible apply r_chain) <;> bv_omega)
  | ((with_reducible apply and_ok) <;> bv_omega)
  | ((with_reducible apply or_ok) <;> bv_omega)
  | ((with_reducible apply Eq.trans one_is) <;> bv_omega)
  | ((with_reducible apply not_ok) <;> bv_omega)
  | ((with_reducible apply r_ite) <;> bv_omega)
  | ((with_reducible apply r_neg) <;> bv_omega)
  | ((with_reducible apply r_tup) <;> bv_omega)
  | ((with_reducible apply r_lst) <;> bv_omega)
  | ((with_reducible apply r_newL) <;> bv_omega)
  | ((with_reducible apply r_blt) <;> bv_omega)
  | ((with_reducible apply r_ix) <;> bv_omega)
  | ((with_reducible apply r_slcF) <;> bv_omega)
  | ((with_reducible apply r_slcT) <;> bv_omega)
  | ((with_reducible apply r_slcB) <;> bv_omega)
  | ((with_reducible apply r_rev) <;> bv_omega)
  | ((with_reducible apply r_newLst) <;> bv_omega)
  | ((with_reducible apply r_isT) <;> bv_omega)
  | ((with_reducible apply r_map) <;> bv_omega)
  | ((with_reducible apply r_fil) <;> bv_omega)
  | ((with_reducible apply r_seq) <;> bv_omega)
  | ((with_reducible apply r_enum) <;> bv_omega)
  | ((with_reducible apply r_range) <;> bv_omega)
  | ((with_reducible show binI _ _ _ = _); clean_wf)
  | ((with_reducible show cmpI _ _ _ = _); simp_wf)
  | with_reducible exact dats_nil
  | ((with_reducible apply dats_cons) <;> bv_omega)
  | with_reducible exact rds_nil
  | ((with_reducible apply rds_cons) <;> bv_omega)
  | with_reducible exact rd_dat
  | ((with_reducible apply rd_loc) <;> exact rfl)
  | ((with_reducible apply cv_dat) <;> bv_omega)
  | ((with_reducible apply cv_in) <;> bv_omega)
  | ((with_reducible apply cv_nin) <;> bv_omega)
  | ((with_reducible apply cv_eq) <;> bv_omega)
  | ((with_reducible apply cv_ne) <;> bv_omega)
  | exact fun _ _ => rfl
  | ((with_reducible show guardOk _ _ = true); first | exact rfl | exact guard_self rfl)
  | exact rfl
  | (show List.length _ ≤ LIM; array_get_dec)
  | (intro _; bv_omega)
  | skip)
/-! free_sets -/
def lastN (a : List Nat) : Nat := a.getLastD 0
def growF (n : Nat) (a : List Nat) : List (List Nat) := ((openL n a).filter fun p => a.isEmpty || Nat.blt (lastN a) p).map fun p => a ++ [p]
def fsStep (n : Nat) (ss : List (List Nat)) : List (List Nat) := ss.foldl (fun acc a => acc ++ growF n a) []
def freeN (n : Nat) : Nat → List (List Nat)
  | 0 => [[]]
  | c + 1 => fsStep n (freeN n c)
theorem free_table1 : ∀ c ∈ List.range 10, (freeN 1 c).length ≤ 72 ∧ ∀ a ∈ freeN 1 c, a.length ≤ 9 ∧ ∀ k ∈ a, k < 3 := by decide +kernel
theorem free_table2 : ∀ c ∈ List.range 10, (freeN 2 c).length ≤ 72 ∧ ∀ a ∈ freeN 2 c, a.length ≤ 9 ∧ ∀ k ∈ a, k < 9 := by decide +kernel
theorem free_table {n c : Nat} (h : n = 1 ∨ n = 2) (hc : c < 10) : (freeN n c).length ≤ 72 ∧ ∀ a ∈ freeN n c, a.length ≤ 9 ∧ ∀ k ∈ a, k < 3 ^ n := by
  rcases h with rfl | rfl
  · exact free_table1 c (List.mem_range.mpr hc)
  · exact free_table2 c (List.mem_range.mpr hc)
theorem ci_pdgt {n j k : Nat} (hj : j < 3 ^ n) (hk : k < 3 ^ n) : cmpI .Gt (pd n j) (pd n k) = some (decide (k < j)) := by
  refine ci ?_
  have h := pd_dataLt hk hj
  have s1 : shape2 (pd n j) (pd n k) = true := by
    unfold shape2
    rw [itr_shaped (pd_itr n j) (by decide), itr_shaped (pd_itr n k) (by decide)]
    rfl
  have s2 := pd_alike n j k
  unfold pd at *
  show (if W.alike _ _ && shape2 _ _ then some (W.dataLt _ _) else none) = _
  rw [s1, s2, h]
  rfl
theorem at_last {n : Nat} {a : List Nat} (h : a ≠ []) : atD (pds n a) (-1) = some (pd n (lastN a)) := by
  have hl : 0 < a.length := List.length_pos_iff.mpr h
  unfold atD L2.atI L2.ixN
  rw [if_neg (by decide), if_pos (by rw [pds_len]; omega)]
  have e : ((-1 : Int) + ((pds n a).length : Nat)).toNat = a.length - 1 := by rw [pds_len]; omega
  show (pds n a)[((-1 : Int) + ((pds n a).length : Nat)).toNat]? = _
  rw [e]
  unfold pds lastN
  rw [List.getElem?_map, List.getLastD_eq_getLast?, List.getLast?_eq_getElem?, List.getElem?_eq_getElem (by omega)]
  rfl
theorem grow_len (n : Nat) (a : List Nat) : (growF n a).length ≤ 3 ^ n := by
  unfold growF
  rw [List.length_map]
  refine Nat.le_trans (List.length_filter_le _ _) ?_
  unfold openL
  refine Nat.le_trans (List.length_filter_le _ _) ?_
  rw [List.length_range]
  exact Nat.le_refl _
def IsFreeSets (c0 c4 : Nat) (f : Fn) : Prop := f.ar = 2 ∧ (∀ (n c : Nat) (st : Store), n = 1 ∨ n = 2 → c < 10 → f.den [.dat (.int (n : Nat)), .dat (.int (c : Nat))] st = .ok (.dat (.list ((freeN n c).map (sd n)))) st) ∧ (∀ (d e : PyData) (st : Store), isInt d 1 2 = false → f.den [.dat d, .dat e] st = .exc c0 st) ∧ ∀ (n : Nat) (e : PyData) (st : Store), n = 1 ∨ n = 2 → isInt e 0 9 = false → f.den [.dat (.int (n : Nat)), .dat e] st = .exc c4 st
theorem isInt_nat {n : Nat} {a b : Int} (h1 : a ≤ n) (h2 : (n : Int) ≤ b) : isInt (.int (n : Nat)) a b = true := by
  rw [isInt, decide_eq_true h1, decide_eq_true h2]
  rfl
theorem isFreeSets {nm : Str} {G : List Fn} {i j c0 c4 : Nat} {f g : Fn} (hf : G[i]? = some f) (h : IsInteger f) (hg : G[j]? = some g) (k : IsOpenList g) : IsFreeSets c0 c4 ⟨nm, 2, runDef G 7 (b_free_sets i j c4 c0)⟩ := by
  have cI : ∀ (d : PyData) (lo hi : Int) (st : Store), callI G i [.dat d, .dat (.int lo), .dat (.int hi)] st = .ok (.dat (.bool (isInt d lo hi))) st := fun d lo hi st => callI_of hf h.1.symm (h.2 d lo hi st)
  have cO : ∀ (n : Nat) (ks : List Nat) (st : Store), InB n ks → callI G j [.dat (.int (n : Nat)), .dat (sd n ks)] st = .ok (.dat (.list (pds n (openL n ks)))) st := fun n ks st hb => callI_of hg k.1.symm (k.2 n ks st hb)
  refine ⟨rfl, fun n c st hn hc => run_rt ?_, fun d e st hd => run_exc ?_, fun n e st hn he => run_exc ?_⟩
  · have hn3 : 1 ≤ n ∧ n ≤ 3 := by omega
    have p27 := p27 hn3
    have p9 : 3 ^ n ≤ 9 := by rcases hn with rfl | rfl <;> decide
    have env0 : startE 7 [.dat (.int (n : Nat)), .dat (.int (c : Nat))] = [some (.dat (.int (n : Nat))), some (.dat (.int (c : Nat))), none, none, none, none, none] := rfl
    rw [env0, b_free_sets]
    refine RtB.pass (not_ok (r_call (by bv_omega) (cI _ _ _ _))) (by rw [isInt_nat (by omega) (by omega)]; rfl) ?_
    refine RtB.pass (not_ok (r_call (by bv_omega) (cI _ _ _ _))) (by rw [isInt_nat (by omega) (by omega)]; rfl) ?_
    refine RtB.set (v := .dat (.list ([[]].map (sd n)))) (st1 := st) (r_lst (r_evs (r_tup evs_nil dats_nil) evs_nil) rfl) ?_
    dsimp only [List.set]
    refine RtB.cons (NxS.loop (σ := Nat) (enc := fun (j : Nat) => PyData.int (j : Nat)) (xs := List.range c) (src := none) (fun k s env q => k = s ∧ (∃ rest, q = st ++ rest) ∧ ∃ v o3 o4 o5, (SeqV q v ((freeN n k).map (sd n)) ∧ (v = .dat (.list ((freeN n k).map (sd n))) ∨ ∃ m, v = .loc m ∧ st.length ≤ m)) ∧ env = [some (.dat (.int (n : Nat))), some (.dat (.int (c : Nat))), some v, o3, o4, o5, none]) (fun s _ => s + 1) 0 (st1 := st) (r_range (ev_var rfl) (by omega)) (fun _ _ _ _ _ => rfl) ⟨rfl, ⟨[], by simp⟩, _, _, _, _, ⟨.inr (.inl rfl), .inl rfl⟩, rfl⟩ ?_ ?_)
    · rintro k0 s x env q hk _ ⟨rfl, ⟨rest, rfl⟩, v, o3, o4, o5, ⟨hv, hv'⟩, rfl⟩
      rw [List.length_range] at hk
      refine ⟨_, rfl, ?_⟩
      dsimp only [List.set]
      have hT := free_table hn (show k0 < 10 by omega)
      refine NxB.set (r_newL evs_nil dats_nil) ?_
      dsimp only [List.set]
      -- the loop over the sets
      have gL : ∀ (x : Cell), ((st ++ rest) ++ [x])[(st ++ rest).length]? = some x := fun x => last_get _ x
      have sL : ∀ (x y : Cell), ((st ++ rest) ++ [x]).set (st ++ rest).length y = (st ++ rest) ++ [y] := fun x y => last_set _ x y
      have hv2 : ∀ x : Cell, SeqV ((st ++ rest) ++ [x]) v ((freeN n k0).map (sd n)) := fun x => hv.more
      obtain ⟨src, hsrc, hgd⟩ : ∃ src, itemsOf ((st ++ rest) ++ [Cell.lst []]) v = some ⟨(freeN n k0).map (sd n), src⟩ ∧ ∀ x : Cell, guardOk src ((st ++ rest) ++ [x]) = true := by
        rcases hv with rfl | rfl | ⟨m, rfl, hm⟩
        · exact ⟨none, rfl, fun _ => rfl⟩
        · exact ⟨none, rfl, fun _ => rfl⟩
        · have hm2 : ∀ x : Cell, ((st ++ rest) ++ [x])[m]? = some (.lst ((freeN n k0).map (sd n))) := fun x => by
            rw [List.getElem?_append_left (List.getElem?_eq_some_iff.mp hm).1]
            exact hm
          exact ⟨some (m, (freeN n k0).map (sd n)), by unfold itemsOf; simp only [hm2], fun x => guard_self (hm2 x)⟩
      refine NxB.cons (NxS.loop (σ := List (List Nat)) (enc := sd n) (xs := freeN n k0) (src := src) (fun m acc env q => acc.length ≤ 9 * m ∧ q = (st ++ rest) ++ [.lst (acc.map (sd n))] ∧ ∃ o5, env = [some (.dat (.int (n : Nat))), some (.dat (.int (c : Nat))), some v, some (.dat (.int (x : Nat))), some (.loc (st ++ rest).length), o5, none]) (fun acc a => acc ++ growF n a) [] (st1 := (st ++ rest) ++ [.lst []]) (r_seq (ev_var rfl) hsrc) (fun m acc env q ⟨_, hq, _⟩ => by rw [hq]; exact hgd _) ⟨by simp, rfl, _, rfl⟩ ?_ ?_)
      · rintro m acc a env q hm ha ⟨hal, rfl, o5, rfl⟩
        refine ⟨_, rfl, ?_⟩
        dsimp only [List.set]
        have hA := hT.2 a ha
        have hin : InB n a := ⟨hn3, hA.2, by omega⟩
        have hgl := grow_len n a
        have hmem : ∀ p ∈ openL n a, p < 3 ^ n := fun p hp => (open_lt hp).1
        have hol : (openL n a).length ≤ 9 := by
          unfold openL
          refine Nat.le_trans (List.length_filter_le _ _) ?_
          rw [List.length_range]
          exact p9
        refine NxB.exp (r_ext (es := (growF n a).map (sd n)) (ds := acc.map (sd n)) (st1 := (st ++ rest) ++ [.lst (acc.map (sd n))]) (ev_var rfl) ⟨_, gL _⟩ ?_ (gL _) (by rw [List.length_map, List.length_map]; unfold LIM; omega)) ?_
        · have hcomp := r_fil (G := G) (own := [6]) (tg := .one 6) (it := .seq (.call j (.cons (.var 0) (.cons (.var 5) .nil)))) (c := .or (.cmp .Eq (.var 5) (.tup .nil)) (.one (.cmp .Gt (.var 6) (.ix (.var 5) (.neg (.lit (.int 1))))))) (e := .bin .Add (.var 5) (.tup (.cons (.var 6) .nil))) (env := [some (.dat (.int (n : Nat))), some (.dat (.int (c : Nat))), some v, some (.dat (.int (x : Nat))), some (.loc (st ++ rest).length), some (.dat (sd n a)), none]) (st := (st ++ rest) ++ [.lst (acc.map (sd n))]) (st1 := (st ++ rest) ++ [.lst (acc.map (sd n))])
            (xs := openL n a) (enc := pd n) (out := fun p => sd n (a ++ [p])) (p := fun p => a.isEmpty || Nat.blt (lastN a) p) (src := none) (r_seq (r_call (r_evs (ev_var rfl) (r_evs (ev_var rfl) evs_nil)) (cO n a _ hin)) rfl) rfl (by unfold LIM; omega) (fun _ _ => rfl)
            (fun p hp acc2 => by
              have e1 : cmpI .Eq (sd n a) (.tuple []) = some a.isEmpty := by
                rw [ci_eq (IT.of (sd_itr n a) (by decide)) (IT.tuple ITs.nil)]
                cases a <;> rfl
              cases ha0 : a with
              | nil =>
                rw [ha0] at e1
                exact or_t (r_cmp (ev_var rfl) (r_tup evs_nil dats_nil) (cv_dat e1))
              | cons y r =>
                have hne : a ≠ [] := by rw [ha0]; simp
                have hlast : lastN a < 3 ^ n := by
                  refine hA.2 _ ?_
                  unfold lastN
                  rw [List.getLastD_eq_getLast?, List.getLast?_eq_some_getLast hne]
                  exact List.getLast_mem hne
                rw [← ha0]
                have e2 : a.isEmpty = false := by rw [ha0]; rfl
                rw [e2] at e1
                refine (or_f (r_cmp (ev_var rfl) (r_tup evs_nil dats_nil) (cv_dat e1))).trans ?_
                rw [e2, Bool.false_or, blt_dec]
                exact one_is.trans (r_cmp (ev_var rfl) (r_ix (ev_var rfl) (r_neg ev_lit) rd_dat rfl (at_last hne)) (cv_dat (ci_pdgt (hmem p hp) hlast))))
            (fun p hp _ acc2 => by
              have e3 : binI .Add (sd n a) (.tuple [pd n p]) = some (sd n (a ++ [p])) := by
                have := bi_catT (xs := pds n a) (ys := [pd n p]) (by rw [pds_len]; show a.length + 1 ≤ 1000000; omega)
                unfold sd
                rw [this]
                unfold pds
                rw [List.map_append]
                rfl
              exact r_bin (ev_var rfl) (r_tup (r_evs (ev_var rfl) evs_nil) (dats_cons dats_nil)) rd_dat rd_dat e3)
          have e4 : ((openL n a).filter fun p => a.isEmpty || Nat.blt (lastN a) p).map (fun p => sd n (a ++ [p])) = (growF n a).map (sd n) := by
            unfold growF
            rw [List.map_map]
            rfl
          rw [e4] at hcomp
          exact hcomp
        · rw [sL, ← List.map_append]
          exact NxB.nil ⟨by rw [List.length_append]; omega, rfl, _, rfl⟩
      · rintro e q ⟨_, rfl, o5', rfl⟩
        refine NxB.set (ev_var rfl) ?_
        dsimp only [List.set]
        exact NxB.nil ⟨rfl, ⟨rest ++ [.lst ((fsStep n (freeN n k0)).map (sd n))], by rw [List.append_assoc]; rfl⟩, _, _, _, _, ⟨.inr (.inr ⟨_, rfl, gL _⟩), .inr ⟨_, rfl, by rw [List.length_append]; omega⟩⟩, rfl⟩
    · rintro e q ⟨_, ⟨rest, rfl⟩, v, o3, o4, o5, ⟨hv, hv'⟩, rfl⟩
      rw [List.length_range] at hv hv'
      refine RtB.ret (ev_var rfl) ?_
      rcases hv' with rfl | ⟨m, rfl, hm⟩
      · exact fin_data
      · rcases hv with h | h | ⟨m', h, hm'⟩
        · cases h
        · cases h
        · cases h
          unfold fin
          dsimp only
          rw [if_neg (Nat.not_lt.mpr hm), hm', List.take_left]
  · rw [show startE 7 [.dat d, .dat e] = [some (.dat d), some (.dat e), none, none, none, none, none] from rfl, b_free_sets]
    refine ifT_exc ?_
    have := cI d 1 2 st
    rw [hd] at this
    exact not_ok (r_call (by bv_omega) this)
  · rw [show startE 7 [.dat (.int (n : Nat)), .dat e] = [some (.dat (.int (n : Nat))), some (.dat e), none, none, none, none, none] from rfl, b_free_sets]
    have h1 := cI (.int (n : Nat)) 1 2 st
    rw [isInt_nat (by omega) (by omega)] at h1
    have h2 := cI e 0 9 st
    rw [he] at h2
    refine (ifF_ex (not_ok (r_call (by bv_omega) h1))).trans ?_
    exact ifT_exc (not_ok (r_call (by bv_omega) h2))
/-! kinds -/
def insS (x : List Nat) : List (List Nat) → List (List Nat)
  | [] => [x]
  | y :: r => if lexN y x then y :: insS x r else x :: y :: r
def sortS : List (List Nat) → List (List Nat)
  | [] => []
  | x :: r => insS x (sortS r)
theorem insS_mem {x a : List Nat} : ∀ {l : List (List Nat)}, a ∈ insS x l ↔ a = x ∨ a ∈ l
  | [] => by simp [insS]
  | y :: r => by
    unfold insS
    split
    · rw [List.mem_cons, insS_mem, List.mem_cons]
      constructor
      · rintro (h | h | h)
        · exact .inr (.inl h)
        · exact .inl h
        · exact .inr (.inr h)
      · rintro (h | h | h)
        · exact .inr (.inl h)
        · exact .inl h
        · exact .inr (.inr h)
    · simp
theorem sortS_mem {a : List Nat} : ∀ {l : List (List Nat)}, a ∈ sortS l ↔ a ∈ l
  | [] => Iff.rfl
  | x :: r => by rw [sortS, insS_mem, sortS_mem, List.mem_cons]
theorem insS_len (x : List Nat) : ∀ l : List (List Nat), (insS x l).length = l.length + 1
  | [] => rfl
  | y :: r => by
    unfold insS
    split
    · rw [List.length_cons, insS_len x r, List.length_cons]
    · rfl
theorem sortS_len : ∀ l : List (List Nat), (sortS l).length = l.length
  | [] => rfl
  | x :: r => by rw [sortS, insS_len, sortS_len r, List.length_cons]
/-- sets with equally many places -/
def Evn (n m : Nat) (l : List (List Nat)) : Prop := ∀ a ∈ l, a.length = m ∧ ∀ k ∈ a, k < 3 ^ n
theorem ins_sds {n m : Nat} {x : List Nat} (hx : x.length = m ∧ ∀ k ∈ x, k < 3 ^ n) : ∀ {l : List (List Nat)}, Evn n m l → insD (sd n x) (l.map (sd n)) = (insS x l).map (sd n)
  | [], _ => rfl
  | y :: r, h => by
    have hy := h y List.mem_cons_self
    have ih := ins_sds hx (l := r) fun a ha => h a (List.mem_cons_of_mem _ ha)
    have e : W.dataLe false (fun d => d) (sd n x) (sd n y) = !lexN y x := by
      show (!W.dataLt (sd n y) (sd n x)) = _
      rw [sd_lt (hy.1.trans hx.1.symm) hy.2 hx.2]
    rw [List.map_cons, insD, e, insS]
    cases lexN y x with
    | true =>
      rw [if_neg (by decide), if_pos rfl, ih]
      rfl
    | false => rfl
theorem sort_sds {n m : Nat} : ∀ {l : List (List Nat)}, Evn n m l → sortD (l.map (sd n)) = (sortS l).map (sd n)
  | [], _ => rfl
  | x :: r, h => by
    have hr : Evn n m r := fun a ha => h a (List.mem_cons_of_mem _ ha)
    rw [List.map_cons, sortD, sort_sds hr, sortS, ins_sds (h x List.mem_cons_self) fun a ha => hr a (sortS_mem.mp ha)]
theorem sortable_sds {n m : Nat} {l : List (List Nat)} (h : Evn n m l) (hl : l.length ≤ 1000) (hm : 0 < m ∨ l.length ≤ 1) : sortable (l.map (sd n)) = true := by
  unfold sortable
  have e1 : alikes (l.map (sd n)) = true := by
    unfold alikes
    rw [ofKs_sds]
    simp
  have e3 : decide (PyData.depthAll (l.map (sd n)) ≤ 64) = true := decide_eq_true (depth_sds n l)
  have e4 : decide ((l.map (sd n)).length ≤ LIM) = true := decide_eq_true (by rw [List.length_map]; unfold LIM; omega)
  have e2 : (plainOrd (l.map (sd n)) || (decide ((l.map (sd n)).length ≤ 1) && (l.map (sd n)).all fun e => !isNone e)) = true := by
    rcases hm with hm | hm
    · have : plainOrd (l.map (sd n)) = true := by
        unfold plainOrd
        rw [Bool.or_eq_true]
        refine .inl ?_
        rw [List.all_eq_true]
        intro x hx
        obtain ⟨a, ha, rfl⟩ := List.mem_map.mp hx
        have := (h a ha).1
        cases a with
        | nil => simp at this; omega
        | cons y r => rfl
      rw [this]
      rfl
    · have : ((l.map (sd n)).all fun e => !isNone e) = true := by
        rw [List.all_eq_true]
        intro x hx
        obtain ⟨a, ha, rfl⟩ := List.mem_map.mp hx
        rfl
      rw [this, decide_eq_true (by rw [List.length_map]; exact hm)]
      simp
  rw [e1, e2, e3, e4]
  rfl
theorem sorted_sds {n m : Nat} {l : List (List Nat)} (h : Evn n m l) (hl : l.length ≤ 1000) (hm : 0 < m ∨ l.length ≤ 1) : sortO (l.map (sd n)) = some (.list ((sortS l).map (sd n))) := by
  unfold sortO
  rw [if_pos (sortable_sds h hl hm), sort_sds h]
def pwStep (ss : List (List Nat)) (p : Nat) : List (List Nat) := ss ++ ss.map (· ++ [p])
def pwL : List (List Nat) := (List.range 9).foldl pwStep [[]]
def putS (f : List (List Nat)) (a : List Nat) : List (List Nat) := if f.contains a then f else f ++ [a]
def kStep (s : SS) (a : List Nat) : SS := if s.2.contains a then s else (s.1 ++ [a], (alikeL a).foldl putS s.2)
def setsN (c : Nat) : List (List Nat) := sortS (pwL.filter fun a => decide (a.length = c))
def kindsN (c : Nat) : List (List Nat) := ((setsN c).foldl kStep ([], [])).1
theorem pw_all : ∀ a ∈ pwL, asc a = true ∧ ∀ k ∈ a, k < 9 := by decide +kernel
theorem pw_few : ∀ c ∈ List.range 10, (pwL.filter fun a => decide (a.length = c)).length ≤ 126 ∧ (0 < c ∨ (pwL.filter fun a => decide (a.length = c)).length ≤ 1) := by decide +kernel
theorem put_more {n : Nat} {a : List Nat} (ha : ∀ k ∈ a, k < 3 ^ n) {f : List (List Nat)} (h : ∀ b ∈ f, ∀ k ∈ b, k < 3 ^ n) : putD (kvS n f) (sd n a) (.bool true) = kvS n (putS f a) := by
  unfold putS
  cases hc : f.contains a with
  | false =>
    rw [if_neg Bool.false_ne_true]
    exact put_kvS ha h fun hm => by rw [List.contains_iff_mem.mpr hm] at hc; cases hc
  | true =>
    rw [if_pos rfl]
    have hm := List.contains_iff_mem.mp hc
    clear hc
    induction f with
    | nil => simp at hm
    | cons b r ih =>
      show putD ((sd n b, .bool true) :: kvS n r) (sd n a) (.bool true) = _
      rw [putD, sd_same (h b List.mem_cons_self) ha]
      by_cases e : b = a
      · subst e
        rw [beq_self_eq_true, if_pos rfl]
        rfl
      · have e1 : (b == a) = false := beq_eq_false_iff_ne.mpr e
        rw [e1, if_neg Bool.false_ne_true, ih (fun b hb => h b (List.mem_cons_of_mem _ hb)) ((List.mem_cons.mp hm).resolve_left fun q => e q.symm)]
        rfl
theorem putS_mem {f : List (List Nat)} {a b : List Nat} : b ∈ putS f a → b ∈ f ∨ b = a := by
  unfold putS
  split
  · exact fun h => .inl h
  · intro h
    rcases List.mem_append.mp h with h | h
    · exact .inl h
    · exact .inr (List.mem_singleton.mp h)
theorem putS_nodup {f : List (List Nat)} {a : List Nat} (h : f.Nodup) : (putS f a).Nodup := by
  unfold putS
  split
  · exact h
  · rename_i hc
    exact List.nodup_append.mpr ⟨h, by simp, fun x hx y hy => by
      rw [List.mem_singleton] at hy
      subst hy
      intro e
      subst e
      exact hc (List.contains_iff_mem.mpr hx)⟩
def IsKinds (c4 : Nat) (f : Fn) : Prop := f.ar = 1 ∧ (∀ (c : Nat) (st : Store), c < 10 → f.den [.dat (.int (c : Nat))] st = .ok (.dat (.list ((kindsN c).map (sd 2)))) st) ∧ ∀ (e : PyData) (st : Store), isInt e 0 9 = false → f.den [.dat e] st = .exc c4 st
theorem isKinds {nm : Str} {G : List Fn} {i j k c4 : Nat} {f g e : Fn} (hf : G[i]? = some f) (h : IsAlikeTo f) (hg : G[j]? = some g) (h2 : IsAllPlaces g) (he : G[k]? = some e) (h3 : IsInteger e) : IsKinds c4 ⟨nm, 1, runDef G 7 (b_kinds i j k c4)⟩ := by
  have cI : ∀ (d : PyData) (lo hi : Int) (st : Store), callI G k [.dat d, .dat (.int lo), .dat (.int hi)] st = .ok (.dat (.bool (isInt d lo hi))) st := fun d lo hi st => callI_of he h3.1.symm (h3.2 d lo hi st)
  refine ⟨rfl, fun c st hc => run_rt ?_, fun d st hd => run_exc ?_⟩
  · have env0 : startE 7 [.dat (.int (c : Nat))] = [some (.dat (.int (c : Nat))), none, none, none, none, none, none] := rfl
    rw [env0, b_kinds]
    refine RtB.pass (not_ok (r_call (by bv_omega) (cI _ _ _ _))) (by rw [isInt_nat (by omega) (by omega)]; rfl) ?_
    refine RtB.set (v := .dat (.list ([[]].map (sd 2)))) (st1 := st) (r_lst (r_evs (r_tup evs_nil dats_nil) evs_nil) rfl) ?_
    dsimp only [List.set]
    have cP : callI G j [.dat (.int 2)] st = .ok (.dat (.list (pds 2 (List.range 9)))) st := callI_of hg h2.1.symm (h2.2 2 st (by decide))
    refine RtB.cons (NxS.loop (σ := List (List Nat)) (enc := pd 2) (xs := List.range 9) (src := none) (fun k ss env q => ss.length ≤ 2 ^ k ∧ (∀ a ∈ ss, a.length ≤ k) ∧ q = st ∧ ∃ o2, env = [some (.dat (.int (c : Nat))), some (.dat (.list (ss.map (sd 2)))), o2, none, none, none, none]) pwStep [[]] (st1 := st) (r_seq (r_call (by bv_omega) cP) rfl) (fun _ _ _ _ _ => rfl) ⟨by simp, by simp, rfl, _, rfl⟩ ?_ ?_)
    · rintro k0 ss p env q hk _ ⟨hl, hal, rfl, o2, rfl⟩
      rw [List.length_range] at hk
      refine ⟨_, rfl, ?_⟩
      dsimp only [List.set]
      have hl2 : ss.length ≤ 512 := Nat.le_trans hl (Nat.le_trans (Nat.pow_le_pow_right (i := k0) (j := 9) (by decide) (by omega)) (by decide))
      have hcomp := r_map (G := G) (own := [3]) (tg := .one 3) (it := .seq (.var 1)) (e := .bin .Add (.var 3) (.tup (.cons (.var 2) .nil))) (env := [some (.dat (.int (c : Nat))), some (.dat (.list (ss.map (sd 2)))), some (.dat (pd 2 p)), none, none, none, none]) (st := q) (st1 := q) (xs := ss) (enc := sd 2) (out := fun a => sd 2 (a ++ [p])) (src := none) (r_seq (ev_var rfl) rfl) rfl (by unfold LIM; omega) (fun _ _ => rfl)
        (fun a ha acc2 => by
          have e3 : binI .Add (sd 2 a) (.tuple [pd 2 p]) = some (sd 2 (a ++ [p])) := by
            have := bi_catT (xs := pds 2 a) (ys := [pd 2 p]) (by rw [pds_len]; show a.length + 1 ≤ 1000000; have := hal a ha; omega)
            unfold sd
            rw [this]
            unfold pds
            rw [List.map_append]
            rfl
          exact r_bin (ev_var rfl) (r_tup (r_evs (ev_var rfl) evs_nil) (dats_cons dats_nil)) rd_dat rd_dat e3)
      refine NxB.setV (.dat (.list ((pwStep ss p).map (sd 2)))) (r_bin (ev_var rfl) hcomp rd_dat rd_dat (bi_cat (by rw [List.length_map, List.length_map]; unfold LIM; omega))) ?_ ?_
      · unfold pwStep
        rw [List.map_append, List.map_map]
        rfl
      dsimp only [List.set]
      refine NxB.nil ⟨?_, ?_, rfl, _, rfl⟩
      · unfold pwStep
        rw [List.length_append, List.length_map, Nat.pow_succ]
        omega
      · intro a ha
        unfold pwStep at ha
        rcases List.mem_append.mp ha with ha | ha
        · have := hal a ha; omega
        · obtain ⟨b, hb, rfl⟩ := List.mem_map.mp ha
          have := hal b hb
          rw [List.length_append, List.length_singleton]
          omega
    rintro e0 q ⟨hl, hal, rfl, o2, rfl⟩
    have epw : (List.range 9).foldl pwStep [[]] = pwL := rfl
    rw [epw] at hl hal ⊢
    have hl : pwL.length ≤ 512 := hl
    have hfew := pw_few c (List.mem_range.mpr hc)
    refine RtB.set2 (r_newL evs_nil dats_nil) (x := .loc q.length) (y := .loc (q.length + 1)) (st2 := q ++ [.lst [], .dict (kvS 2 [])]) ?_ ?_
    · show R.ok (EV.loc (q ++ [Cell.lst []]).length) ((q ++ [Cell.lst []]) ++ [Cell.dict []]) = _
      rw [List.length_append, List.append_assoc]
      rfl
    dsimp only [List.set]
    have g0 : ∀ (x y : Cell), (q ++ [x, y])[q.length]? = some x := fun x y => by
      rw [List.getElem?_append_right (Nat.le_refl _), Nat.sub_self]; rfl
    have g1 : ∀ (x y : Cell), (q ++ [x, y])[q.length + 1]? = some y := fun x y => by
      rw [List.getElem?_append_right (by omega), Nat.add_sub_cancel_left]; rfl
    have s0 : ∀ (x y z : Cell), (q ++ [x, y]).set q.length z = q ++ [z, y] := fun x y z => by
      rw [List.set_append_right _ _ (Nat.le_refl _), Nat.sub_self]; rfl
    have s1 : ∀ (x y z : Cell), (q ++ [x, y]).set (q.length + 1) z = q ++ [x, z] := fun x y z => by
      rw [List.set_append_right _ _ (by omega), Nat.add_sub_cancel_left]; rfl
    have hfil : Evn 2 c (pwL.filter fun a => decide (a.length = c)) := fun a ha => by
      rw [List.mem_filter] at ha
      exact ⟨of_decide_eq_true ha.2, (pw_all a ha.1).2⟩
    have hset : ∀ a ∈ setsN c, SetOk 2 a := fun a ha => by
      have ha := sortS_mem.mp ha
      have hp := pw_all a (List.mem_filter.mp ha).1
      refine ⟨⟨by decide, hp.2, ?_⟩, hp.1⟩
      have := (hfil a ha).1
      omega
    have hslen : (setsN c).length ≤ 126 := by
      unfold setsN
      rw [sortS_len]
      exact hfew.1
    refine RtB.cons (NxS.loop (σ := SS) (enc := sd 2) (xs := setsN c) (src := none) (fun k s env p => s.1.length ≤ k ∧ s.2.Nodup ∧ (∀ a ∈ s.2, SetOk 2 a) ∧ p = q ++ [.lst (s.1.map (sd 2)), .dict (kvS 2 s.2)] ∧ ∃ o3 o6, env = [some (.dat (.int (c : Nat))), some (.dat (.list (pwL.map (sd 2)))), o2, o3, some (.loc q.length), some (.loc (q.length + 1)), o6]) kStep ([], []) (st1 := q ++ [.lst [], .dict (kvS 2 [])]) ?_ (fun _ _ _ _ _ => rfl) ⟨by simp, by simp, by simp, rfl, _, _, rfl⟩ ?_ ?_)
    · have hcomp := r_fil (G := G) (own := [3]) (tg := .one 3) (it := .seq (.var 1)) (c := .cmp .Eq (.blt .len (.cons (.var 3) .nil)) (.var 0)) (e := .var 3) (env := [some (.dat (.int (c : Nat))), some (.dat (.list (pwL.map (sd 2)))), o2, none, some (.loc q.length), some (.loc (q.length + 1)), none]) (st := q ++ [.lst [], .dict (kvS 2 [])]) (st1 := q ++ [.lst [], .dict (kvS 2 [])]) (xs := pwL) (enc := sd 2) (out := sd 2) (p := fun a => decide (a.length = c)) (src := none) (r_seq (ev_var rfl) rfl) rfl (by unfold LIM; omega) (fun _ _ => rfl)
        (fun a ha acc2 => r_cmp (r_blt (r_evs (ev_var rfl) evs_nil) (rds_cons rd_dat rds_nil) (d := .int (a.length : Nat)) (by show some (PyData.int ((pds 2 a).length : Nat)) = _; rw [pds_len])) (ev_var rfl) (cv_dat (by rw [ci_int]; congr 1; exact decide_eq_decide.mpr (by omega))))
        (fun a ha _ acc2 => ev_var rfl)
      refine r_seq (v := .dat (.list ((setsN c).map (sd 2)))) (r_blt (r_evs hcomp evs_nil) (rds_cons rd_dat rds_nil) ?_) rfl
      exact sorted_sds hfil (by omega) hfew.2
    · rintro k0 s a env p hk ha ⟨hl1, hnd, hok, rfl, o3, o6, rfl⟩
      refine ⟨_, rfl, ?_⟩
      dsimp only [List.set]
      have haS := hset a ha
      have hfS : ∀ b ∈ s.2, ∀ k ∈ b, k < 3 ^ 2 := fun b hb => (hok b hb).1.2.1
      have t1 := r_cmp (G := G) (a := .var 3) (b := .var 5) (env := [some (.dat (.int (c : Nat))), some (.dat (.list (pwL.map (sd 2)))), o2, some (.dat (sd 2 a)), some (.loc q.length), some (.loc (q.length + 1)), o6]) (st := q ++ [.lst (s.1.map (sd 2)), .dict (kvS 2 s.2)]) (ev_var rfl) (ev_var rfl) (cv_ninD (g1 _ _) (sd_key 2 a))
      rw [look_kvS haS.1.2.1 hfS] at t1
      cases hb : s.2.contains a with
      | true =>
        rw [hb] at t1
        have e1 : kStep s a = s := by unfold kStep; rw [hb, if_pos rfl]
        refine NxB.cons (NxS.ifF t1 (NxB.nil (NxB.nil ?_)))
        rw [e1]
        exact ⟨by omega, hnd, hok, rfl, _, _, rfl⟩
      | false =>
        rw [hb] at t1
        have e1 : kStep s a = (s.1 ++ [a], (alikeL a).foldl putS s.2) := by unfold kStep; rw [hb, if_neg Bool.false_ne_true]
        have hal := alike_len haS
        have hA := alike_all haS (fun _ => True) trivial fun _ _ _ _ _ => trivial
        have hlen := sets_len hA.1 fun a ha => (hal a ha).1
        have hk126 : k0 < 126 := by omega
        refine NxB.cons (NxS.ifT t1 (NxB.exp (r_app (ev_var rfl) ⟨_, g0 _ _⟩ (ev_var rfl) (g0 _ _) (by rw [List.length_map]; unfold LIM; omega)) ?_))
        rw [s0]
        have cA : callI G i [.dat (sd 2 a)] (q ++ [.lst (s.1.map (sd 2) ++ [sd 2 a]), .dict (kvS 2 s.2)]) = .ok (.dat (.list ((alikeL a).map (sd 2)))) (q ++ [.lst (s.1.map (sd 2) ++ [sd 2 a]), .dict (kvS 2 s.2)]) := callI_of hf h.1.symm (h.2 a _ haS)
        refine NxB.cons (NxS.loop (σ := List (List Nat)) (enc := sd 2) (xs := alikeL a) (src := none) (fun m sn env p => sn.Nodup ∧ (∀ a ∈ sn, SetOk 2 a) ∧ p = q ++ [.lst (s.1.map (sd 2) ++ [sd 2 a]), .dict (kvS 2 sn)] ∧ ∃ o6, env = [some (.dat (.int (c : Nat))), some (.dat (.list (pwL.map (sd 2)))), o2, some (.dat (sd 2 a)), some (.loc q.length), some (.loc (q.length + 1)), o6]) putS s.2 (st1 := q ++ [.lst (s.1.map (sd 2) ++ [sd 2 a]), .dict (kvS 2 s.2)]) (r_seq (r_call (r_evs (ev_var rfl) evs_nil) cA) rfl) (fun _ _ _ _ _ => rfl) ⟨hnd, hok, rfl, _, rfl⟩ ?_ ?_)
        · rintro m sn b env p _ hb2 ⟨hnd2, hok2, rfl, o6', rfl⟩
          refine ⟨_, rfl, ?_⟩
          dsimp only [List.set]
          have hbS := (hal b hb2).1
          have hsl := sets_len hnd2 hok2
          refine NxB.cons (NxS.setIx (n := q.length + 1) (kvs := kvS 2 sn) (key := sd 2 b) (d := .bool true) ev_lit (ev_var rfl) (ev_var rfl) (sd_key 2 b) (g1 _ _) (by unfold kvS; rw [List.length_map]; unfold LIM; omega) ?_)
          rw [s1, put_more hbS.1.2.1 fun x hx => (hok2 x hx).1.2.1]
          refine NxB.nil ⟨putS_nodup hnd2, fun x hx => ?_, rfl, _, rfl⟩
          rcases putS_mem hx with hx | rfl
          · exact hok2 x hx
          · exact hbS
        · rintro e1' p' ⟨hnd2, hok2, rfl, o6', rfl⟩
          refine NxB.nil (NxB.nil ?_)
          rw [e1]
          refine ⟨by show (s.1 ++ [a]).length ≤ _; rw [List.length_append, List.length_singleton]; omega, hnd2, hok2, by rw [List.map_append]; rfl, _, _, rfl⟩
    · rintro e1 p ⟨_, _, _, rfl, o3, o6, rfl⟩
      refine RtB.ret (ev_var rfl) ?_
      exact fin_own
  · rw [show startE 7 [.dat d] = [some (.dat d), none, none, none, none, none, none] from rfl, b_kinds]
    refine ifT_exc ?_
    have := cI d 0 9 st
    rw [hd] at this
    exact not_ok (r_call (by bv_omega) this)
end PD

set_option Elab.async false
set_option linter.all false
set_option maxRecDepth 100000
set_option maxHeartbeats 4000000
/-! Kinds by the numbers of places and lines. -/
namespace PD
open PySem
def nlT (ks : List Nat) : Nat := (T2.filter (inAll ks)).length
def repOf (m l : Nat) : List Nat := match m, l with
  | 3, 0 => [0, 1, 3]
  | 4, 0 => [0, 1, 3, 4]
  | 5, 2 => [0, 1, 2, 3, 6]
  | 6, 3 => [0, 1, 2, 3, 4, 6]
  | m, _ => List.range m
def kindT (ks : List Nat) : List Nat := repOf ks.length (nlT ks)
def reps14 : List (List Nat) := [[], [0], [0, 1], [0, 1, 2], [0, 1, 3], [0, 1, 2, 3], [0, 1, 3, 4], [0, 1, 2, 3, 4], [0, 1, 2, 3, 6], [0, 1, 2, 3, 4, 5], [0, 1, 2, 3, 4, 6], [0, 1, 2, 3, 4, 5, 6], [0, 1, 2, 3, 4, 5, 6, 7], [0, 1, 2, 3, 4, 5, 6, 7, 8]]
theorem gens_nl : ∀ a ∈ subs (List.range 9), ∀ g ∈ gensL a, nlT g = nlT a := by decide +kernel
theorem rep_ok : ∀ a ∈ subs (List.range 9), (reps14.contains (kindT a) = true ∧ lexN a (kindT a) = false) ∧ (kindT a).length = a.length ∧ kindT (kindT a) = kindT a := by decide +kernel
theorem reps_set : ∀ r ∈ reps14, asc r = true ∧ (∀ k ∈ r, k < 9) ∧ r.length ≤ 900 := by decide +kernel
def classL (r : List Nat) : List (List Nat) := (subs (List.range 9)).filter fun a => kindT a == r
theorem reps_len : ∀ r ∈ reps14, (classL r).length = (alikeL r).length := by decide +kernel
theorem rep_set {r : List Nat} (h : r ∈ reps14) : SetOk 2 r := by
  have := reps_set r h
  exact ⟨⟨by decide, this.2.1, this.2.2⟩, this.1⟩
theorem set_sub9 {a : List Nat} (h : SetOk 2 a) : a ∈ subs (List.range 9) := set_subs h
theorem kind_same {a : List Nat} (h : SetOk 2 a) : ∀ b ∈ alikeL a, SetOk 2 b ∧ kindT b = kindT a := by
  have := (alike_all h (fun b => b.length = a.length ∧ nlT b = nlT a) ⟨rfl, rfl⟩ fun b hb hp g hg => ⟨(gens_len g hg).trans hp.1, (gens_nl b (set_sub9 hb) g hg).trans hp.2⟩).2.1
  intro b hb
  obtain ⟨h1, h2, h3⟩ := this b hb
  refine ⟨h1, ?_⟩
  unfold kindT
  rw [h2, h3]
theorem kind_rep {a : List Nat} (h : SetOk 2 a) : kindT a ∈ reps14 := List.contains_iff_mem.mp (rep_ok a (set_sub9 h)).1.1
theorem triv_all {a : List Nat} (h : SetOk 2 a) : (alikeL a).Nodup ∧ a ∈ alikeL a ∧ ∀ b ∈ alikeL a, ∀ g ∈ gensL b, g ∈ alikeL a := by
  have := alike_all h (fun _ => True) trivial fun _ _ _ _ _ => trivial
  exact ⟨this.1, this.2.2.1, this.2.2.2⟩
/-- all sets of a kind are found from its least one -/
theorem from_rep {a : List Nat} (h : SetOk 2 a) : a ∈ alikeL (kindT a) := by
  have hr := kind_rep h
  have hrS := rep_set hr
  have hs := kind_same hrS
  refine nodup_all (m := classL (kindT a)) (triv_all hrS).1 (fun b hb => ?_) (Nat.le_of_eq (reps_len _ hr)) a ?_
  · have := hs b hb
    unfold classL
    rw [List.mem_filter, beq_iff_eq]
    refine ⟨set_sub9 this.1, this.2.trans ?_⟩
    exact (rep_ok a (set_sub9 h)).2.2
  · unfold classL
    rw [List.mem_filter, beq_iff_eq]
    exact ⟨set_sub9 h, rfl⟩
theorem move_inj {n : Nat} {f : Nat → Nat} (m : Mv n f) {a b : List Nat} (ha : SetOk n a) (hb : SetOk n b) (e : moveL f a = moveL f b) : a = b := by
  have key : ∀ {a b : List Nat}, SetOk n a → SetOk n b → moveL f a = moveL f b → ∀ x, x ∈ a → x ∈ b := fun {a b} ha hb e x hx => by
    have : f x ∈ moveL f a := move_mem.mpr ⟨x, hx, rfl⟩
    rw [e] at this
    obtain ⟨y, hy, h⟩ := move_mem.mp this
    have := m.inj y x (hb.1.2.1 y hy) (ha.1.2.1 x hx) h
    exact this ▸ hy
  exact asc_ext a b ha.2 hb.2 fun x => ⟨key ha hb e x, key hb ha e.symm x⟩
/-- what a move leads into what was found, was found -/
theorem back_in {f : Nat → Nat} (m : Mv 2 f) {S : List (List Nat)} (hn : S.Nodup) (hs : ∀ a ∈ S, SetOk 2 a) (hc : ∀ a ∈ S, moveL f a ∈ S) {x : List Nat} (hx : SetOk 2 x) (h : moveL f x ∈ S) : x ∈ S := by
  have hnd : (S.map (moveL f)).Nodup := by
    have key : ∀ l : List (List Nat), l.Nodup → (∀ a ∈ l, SetOk 2 a) → (l.map (moveL f)).Nodup := fun l => by
      induction l with
      | nil => intros; exact List.nodup_nil
      | cons a r ih =>
        intro h1 h2
        rw [List.nodup_cons] at h1
        rw [List.map_cons, List.nodup_cons]
        refine ⟨fun hm => ?_, ih h1.2 fun b hb => h2 b (List.mem_cons_of_mem _ hb)⟩
        obtain ⟨b, hb, e⟩ := List.mem_map.mp hm
        have := move_inj m (h2 b (List.mem_cons_of_mem _ hb)) (h2 a List.mem_cons_self) e
        exact h1.1 (this ▸ hb)
    exact key S hn hs
  have := nodup_all hnd (m := S) (fun b hb => by
    obtain ⟨a, ha, rfl⟩ := List.mem_map.mp hb
    exact hc a ha) (by rw [List.length_map]; exact Nat.le_refl _) _ h
  obtain ⟨y, hy, e⟩ := List.mem_map.mp this
  have := move_inj m (hs y hy) hx e
  exact this ▸ hy
theorem back_all {S : List (List Nat)} (hn : S.Nodup) (hs : ∀ a ∈ S, SetOk 2 a) (hc : ∀ a ∈ S, ∀ g ∈ gensL a, g ∈ S) {x : List Nat} (hx : SetOk 2 x) : ∀ g ∈ gensL x, g ∈ S → x ∈ S := by
  obtain ⟨m1, m2, m3, m4, m5⟩ := gens_mv
  intro g hg hgS
  unfold gensL at hg
  simp only [List.mem_cons, List.not_mem_nil, or_false] at hg
  rcases hg with rfl | rfl | rfl | rfl | rfl
  · exact back_in m1 hn hs (fun a ha => hc a ha _ (by simp [gensL])) hx hgS
  · exact back_in m2 hn hs (fun a ha => hc a ha _ (by simp [gensL])) hx hgS
  · exact back_in m3 hn hs (fun a ha => hc a ha _ (by simp [gensL])) hx hgS
  · exact back_in m4 hn hs (fun a ha => hc a ha _ (by simp [gensL])) hx hgS
  · exact back_in m5 hn hs (fun a ha => hc a ha _ (by simp [gensL])) hx hgS
theorem rep_in {a : List Nat} (h : SetOk 2 a) : kindT a ∈ alikeL a := by
  have ht := triv_all h
  have hs := kind_same h
  have := (alike_all (rep_set (kind_rep h)) (fun x => x ∈ alikeL a → kindT a ∈ alikeL a) (fun q => q) fun b hb hp g hg hgS => hp (back_all ht.1 (fun c hc => (hs c hc).1) ht.2.2 hb g hg hgS)).2.1
  exact (this a (from_rep h)).2 ht.2.1
theorem alike_iff {a b : List Nat} (ha : SetOk 2 a) (hb : SetOk 2 b) : (alikeL a).contains b = decide (kindT a = kindT b) := by
  rw [Bool.eq_iff_iff, List.contains_iff_mem, decide_eq_true_eq]
  constructor
  · intro h
    exact (kind_same ha b h).2.symm
  · intro h
    have h1 := from_rep hb
    rw [← h] at h1
    have ht := triv_all ha
    exact ((alike_all (rep_set (kind_rep ha)) (fun x => x ∈ alikeL a) (rep_in ha) fun c _ hc g hg => ht.2.2 c hc g hg).2.1 b h1).2
theorem kind_is {a : List Nat} (h : SetOk 2 a) : kindL a = kindT a := by
  have hs := kind_same h
  have hr := rep_in h
  have hlen := alike_len h
  unfold kindL
  cases e : alikeL a with
  | nil => rw [e] at hr; simp at hr
  | cons x r =>
    rw [e] at hs hr hlen
    have hl : ∀ y ∈ r, y.length = x.length := fun y hy => (hlen y (List.mem_cons_of_mem _ hy)).2.trans (hlen x List.mem_cons_self).2.symm
    have hm := minS_mem r x
    have hle := minS_least r x hl
    have h1 := hle _ hr
    have hmS := hs _ hm
    have h2 := (rep_ok _ (set_sub9 hmS.1)).1.2
    rw [hmS.2] at h2
    refine lex_total ?_ h2 h1
    rw [(hlen _ hm).2, (hlen _ hr).2]
def kindsT (c : Nat) : List (List Nat) := reps14.filter fun r => decide (r.length = c)
theorem kinds_is9 : ∀ c ∈ List.range 10, kindsN c = sortS (kindsT c) := by decide +kernel
end PD

set_option Elab.async false
set_option linter.all false
set_option maxRecDepth 100000
set_option maxHeartbeats 4000000
/-! Defs that try and name the error; equal data; the laws' small tests; all lines by all triples. -/
namespace PD
open PySem
mutual
theorem eqv_self : ∀ d : PyData, PyData.canLay0 d = true → PyData.eqv d d = true
  | .none, _ => by simp [PyData.eqv]
  | .bool b, _ => by simp [PyData.eqv]
  | .int i, _ => by simp [PyData.eqv]
  | .str x, _ => by simp [PyData.eqv]
  | .list xs, h => by
    simp only [PyData.canLay0] at h
    simp only [PyData.eqv]
    exact eqvs_self xs h
  | .tuple xs, h => by
    simp only [PyData.canLay0] at h
    simp only [PyData.eqv]
    exact eqvs_self xs h
  | .dict _, h => by simp [PyData.canLay0] at h
theorem eqvs_self : ∀ ds : List PyData, PyData.canLayAll0 ds = true → PyData.eqvAll ds ds = true
  | [], _ => by simp [PyData.eqvAll]
  | d :: r, h => by
    simp only [PyData.canLayAll0, Bool.and_eq_true] at h
    simp only [PyData.eqvAll, Bool.and_eq_true]
    exact ⟨eqv_self d h.1, eqvs_self r h.2⟩
end
theorem ci_self {d : PyData} (h : SeqAt.shaped d = true) : cmpI .Eq d d = some true := by
  refine ci ?_
  show (if shape2 d d then some (PyData.eqv d d) else none) = _
  have h2 := h
  unfold SeqAt.shaped at h2
  rw [Bool.and_eq_true] at h2
  rw [if_pos (by unfold shape2; rw [h]; rfl), eqv_self d h2.1]
theorem ci_selfN {d : PyData} (h : SeqAt.shaped d = true) : cmpI .NotEq d d = some false := ci_ne (ci_self h)
theorem raised_shaped (c : Nat) : SeqAt.shaped (raised c) = true := by
  unfold raised SeqAt.shaped
  have h : PyData.strOk (Str.ofString "raised") = true := by decide +kernel
  simp [PyData.canLay0, PyData.canLayAll0, PyData.depth, PyData.depthAll, h]
theorem shaped_rep {d : PyData} (h : SeqAt.shaped d = true) (hd : d.depth ≤ 63) : ∀ n, SeqAt.shaped (.list (List.replicate n d)) = true := by
  have h2 := h
  unfold SeqAt.shaped at h2
  rw [Bool.and_eq_true] at h2
  have k1 : ∀ n, PyData.canLayAll0 (List.replicate n d) = true := fun n => by
    induction n with
    | zero => simp [PyData.canLayAll0]
    | succ n ih => rw [List.replicate_succ, PyData.canLayAll0, h2.1, ih]; rfl
  have k2 : ∀ n, PyData.depthAll (List.replicate n d) ≤ d.depth := fun n => by
    induction n with
    | zero => simp [PyData.depthAll]
    | succ n ih => rw [List.replicate_succ, PyData.depthAll]; omega
  intro n
  unfold SeqAt.shaped
  rw [PyData.canLay0, k1, PyData.depth, Bool.true_and, decide_eq_true_eq]
  have := k2 n
  omega
/-! a try around one return -/
theorem try_ok {G : List Fn} {e : IE} {env : Env} {st : Store} {d : PyData} (h : ev G e env st = .ok (.dat d) st) : exB G (.cons (.tryW (.cons (.ret e) .nil)) .nil) env st = .ret (.dat d) st := by
  rw [exB_cons, ex, seq_ret (ret_ok h)]
  rfl
theorem try_exc {G : List Fn} {e : IE} {env : Env} {st : Store} {c : Nat} (hc : c < 10) (h : ev G e env st = .exc c st) : exB G (.cons (.tryW (.cons (.ret e) .nil)) .nil) env st = .ret (.dat (raised c)) st := by
  have h1 : exB G (.cons (.ret e) .nil) env st = .exc c st := by
    rw [exB_cons, ex_ret, h]
    rfl
  rw [exB_cons, ex, h1]
  show (if c < 10 then F.ret (.dat (raised c)) st else .err).bind _ = _
  rw [if_pos hc]
  rfl
def IsTry1 (g f : Fn) : Prop := f.ar = 1 ∧ (∀ (x : EV) (d : PyData) (st : Store), g.den [x] st = .ok (.dat d) st → f.den [x] st = .ok (.dat d) st) ∧ ∀ (x : EV) (c : Nat) (st : Store), c < 10 → g.den [x] st = .exc c st → f.den [x] st = .ok (.dat (raised c)) st
def IsTry2 (g f : Fn) : Prop := f.ar = 2 ∧ (∀ (x y : EV) (d : PyData) (st : Store), g.den [x, y] st = .ok (.dat d) st → f.den [x, y] st = .ok (.dat d) st) ∧ ∀ (x y : EV) (c : Nat) (st : Store), c < 10 → g.den [x, y] st = .exc c st → f.den [x, y] st = .ok (.dat (raised c)) st
def IsTry3 (g f : Fn) : Prop := f.ar = 3 ∧ (∀ (x y z : EV) (d : PyData) (st : Store), g.den [x, y, z] st = .ok (.dat d) st → f.den [x, y, z] st = .ok (.dat d) st) ∧ ∀ (x y z : EV) (c : Nat) (st : Store), c < 10 → g.den [x, y, z] st = .exc c st → f.den [x, y, z] st = .ok (.dat (raised c)) st
/-- [g0, g1, ..][k](x, y) -/
def IsTryIx2 (gs : List Fn) (f : Fn) : Prop := f.ar = 3 ∧ (∀ (k : Nat) (g : Fn) (x y : EV) (d : PyData) (st : Store), gs[k]? = some g → g.den [x, y] st = .ok (.dat d) st → f.den [.dat (.int (k : Nat)), x, y] st = .ok (.dat d) st) ∧ ∀ (k : Nat) (g : Fn) (x y : EV) (c : Nat) (st : Store), c < 10 → gs[k]? = some g → g.den [x, y] st = .exc c st → f.den [.dat (.int (k : Nat)), x, y] st = .ok (.dat (raised c)) st
theorem isTry1 {nm : Str} {G : List Fn} {i : Nat} {g : Fn} (hg : G[i]? = some g) (ha : g.ar = 1) : IsTry1 g ⟨nm, 1, runDef G 2 (.cons (.tryW (.cons (.ret (.call i (.cons (.var 0) .nil))) .nil)) .nil)⟩ :=
  ⟨rfl, fun x d st h => run_dat (try_ok (callE_ok (evs1_ok (ev_var rfl)) hg ha.symm h)), fun x c st hc h => run_dat (try_exc hc (callE_exc (evs1_ok (ev_var rfl)) hg ha.symm h))⟩
theorem isTry2 {nm : Str} {G : List Fn} {i : Nat} {g : Fn} (hg : G[i]? = some g) (ha : g.ar = 2) : IsTry2 g ⟨nm, 2, runDef G 3 (.cons (.tryW (.cons (.ret (.call i (.cons (.var 0) (.cons (.var 1) .nil)))) .nil)) .nil)⟩ :=
  ⟨rfl, fun x y d st h => run_dat (try_ok (callE_ok (evs2_ok (ev_var rfl) (ev_var rfl)) hg ha.symm h)), fun x y c st hc h => run_dat (try_exc hc (callE_exc (evs2_ok (ev_var rfl) (ev_var rfl)) hg ha.symm h))⟩
theorem isTry3 {nm : Str} {G : List Fn} {i : Nat} {g : Fn} (hg : G[i]? = some g) (ha : g.ar = 3) : IsTry3 g ⟨nm, 3, runDef G 4 (.cons (.tryW (.cons (.ret (.call i (.cons (.var 0) (.cons (.var 1) (.cons (.var 2) .nil))))) .nil)) .nil)⟩ :=
  ⟨rfl, fun x y z d st h => run_dat (try_ok (callE_ok (evs3_ok (ev_var rfl) (ev_var rfl) (ev_var rfl)) hg ha.symm h)), fun x y z c st hc h => run_dat (try_exc hc (callE_exc (evs3_ok (ev_var rfl) (ev_var rfl) (ev_var rfl)) hg ha.symm h))⟩
theorem at_nat {fs : List Nat} {k i : Nat} (h : fs[k]? = some i) : L2.atI fs ((k : Nat) : Int) = some i := by
  have hl := (List.getElem?_eq_some_iff.mp h).1
  unfold L2.atI L2.ixN
  rw [if_pos (by omega), if_pos (by omega)]
  exact h
theorem callIx_ok {G : List Fn} {fs : List Nat} {k i : Nat} {e : IE} {es : IA} {vs : List EV} {g : Fn} {env : Env} {st : Store} {r : R EV} (h1 : ev G e env st = .ok (.dat (.int (k : Nat))) st) (hk : fs[k]? = some i) (h2 : evs G es env st = .ok vs st) (hg : G[i]? = some g) (hl : vs.length = g.ar) (h : g.den vs st = r) : ev G (.callIx fs e es) env st = r := by
  rw [ev, h1, bind_ok]
  simp only [at_nat hk]
  rw [h2, bind_ok, callF_at hg hl, h]
theorem isTryIx2 {nm : Str} {G : List Fn} {fs : List Nat} {gs : List Fn} (hl : fs.length = gs.length) (hg : ∀ (k : Nat) (i : Nat) (g : Fn), fs[k]? = some i → gs[k]? = some g → G[i]? = some g ∧ g.ar = 2) : IsTryIx2 gs ⟨nm, 3, runDef G 4 (.cons (.tryW (.cons (.ret (.callIx fs (.var 0) (.cons (.var 1) (.cons (.var 2) .nil)))) .nil)) .nil)⟩ := by
  have at_ : ∀ (k : Nat) (g : Fn), gs[k]? = some g → ∃ i, fs[k]? = some i := fun k g h => by
    have := (List.getElem?_eq_some_iff.mp h).1
    exact ⟨_, List.getElem?_eq_getElem (by omega)⟩
  refine ⟨rfl, fun k g x y d st hk h => ?_, fun k g x y c st hc hk h => ?_⟩
  · obtain ⟨i, hi⟩ := at_ k g hk
    obtain ⟨h1, h2⟩ := hg k i g hi hk
    exact run_dat (try_ok (callIx_ok (ev_var rfl) hi (evs2_ok (ev_var rfl) (ev_var rfl)) h1 h2.symm h))
  · obtain ⟨i, hi⟩ := at_ k g hk
    obtain ⟨h1, h2⟩ := hg k i g hi hk
    exact run_dat (try_exc hc (callIx_ok (ev_var rfl) hi (evs2_ok (ev_var rfl) (ev_var rfl)) h1 h2.symm h))
/-! small tests -/
def IsSameTruth (f : Fn) : Prop := f.ar = 2 ∧ ∀ (b c : Bool) (st : Store), f.den [.dat (.bool b), .dat (.bool c)] st = .ok (.dat (.bool (b == c))) st
theorem ci_bool (b c : Bool) : cmpI .Eq (.bool b) (.bool c) = some (b == c) := by
  refine ci ?_
  cases b <;> cases c <;> decide +kernel
theorem isSameTruth {nm : Str} (G : List Fn) : IsSameTruth ⟨nm, 2, runDef G 2 b__law_same_truth⟩ := by
  refine ⟨rfl, fun b c st => ?_⟩
  show runDef G 2 b__law_same_truth [.dat (.bool b), .dat (.bool c)] st = _
  refine run_dat ?_
  rw [show startE 2 [.dat (.bool b), .dat (.bool c)] = [some (.dat (.bool b)), some (.dat (.bool c))] from rfl, b__law_same_truth]
  exact seq_ret (ret_ok ((and_t (st1 := st) rfl).trans (one_is.trans (r_cmp (ev_var rfl) (ev_var rfl) (cv_dat (ci_bool b c))))))
def IsSameNumber (f : Fn) : Prop := f.ar = 2 ∧ ∀ (a b : Int) (st : Store), f.den [.dat (.int a), .dat (.int b)] st = .ok (.dat (.bool (decide (a = b)))) st
theorem isSameNumber {nm : Str} (G : List Fn) : IsSameNumber ⟨nm, 2, runDef G 2 b__law_same_number⟩ := by
  refine ⟨rfl, fun a b st => ?_⟩
  show runDef G 2 b__law_same_number [.dat (.int a), .dat (.int b)] st = _
  refine run_dat ?_
  rw [show startE 2 [.dat (.int a), .dat (.int b)] = [some (.dat (.int a)), some (.dat (.int b))] from rfl, b__law_same_number]
  refine seq_ret (ret_ok ((and_t (st1 := st) rfl).trans ((and_t (st1 := st) rfl).trans (one_is.trans (r_cmp (ev_var rfl) (ev_var rfl) (cv_dat (ci_int a b)))))))
/-! _law_rows_in -/
def rowIn (n x y : Nat) (acc : List (Nat × Nat × Nat)) (z : Nat) : List (Nat × Nat × Nat) := if decide (z = thr n x y) then acc ++ [(x, y, z)] else acc
def rowMid (n x : Nat) (acc : List (Nat × Nat × Nat)) (y : Nat) (q : List Nat) : List (Nat × Nat × Nat) := q.foldl (rowIn n x y) acc
def rowOut (n : Nat) (acc : List (Nat × Nat × Nat)) (x : Nat) (r : List Nat) : List (Nat × Nat × Nat) := foldE (rowMid n x) acc r
def rowsL (n : Nat) (ks : List Nat) : List (Nat × Nat × Nat) := foldE (rowOut n) [] ks
def IsRowsIn (f : Fn) : Prop := f.ar = 1 ∧ ∀ (n : Nat) (ks : List Nat) (d : PyData) (st : Store), n ≤ 1000 → (∀ k ∈ ks, k < 3 ^ n) → ks.length ≤ 60 → (d = .tuple (pds n ks) ∨ d = .list (pds n ks)) → f.den [.dat d] st = .ok (.dat (.list ((rowsL n ks).map (tri n)))) st
theorem tail_at {n : Nat} {ks pre r : List Nat} {m : Nat} {d : PyData} (e : ks = pre ++ r) (hm : m = pre.length) (hd : d = .tuple (pds n ks) ∨ d = .list (pds n ks)) : ∃ t, slcD d (some ((m : Nat) : Int)) none = some t ∧ (t = .tuple (pds n r) ∨ t = .list (pds n r)) := by
  have h1 : cutD (pds n ks) (some ((m : Nat) : Int)) none = pds n r := by
    rw [cut_tail (pds n ks) m (by rw [pds_len, e, List.length_append]; omega), hm, e]
    unfold pds
    rw [List.map_append]
    have : pre.length = (pre.map (pd n)).length := by rw [List.length_map]
    rw [this, List.drop_left]
  rcases hd with rfl | rfl
  · exact ⟨.tuple (pds n r), by show some (PyData.tuple _) = _; rw [h1], .inl rfl⟩
  · exact ⟨.list (pds n r), by show some (PyData.list _) = _; rw [h1], .inr rfl⟩
theorem isRowsIn {nm : Str} {G : List Fn} {i : Nat} {f : Fn} (hf : G[i]? = some f) (h : IsRowed f) : IsRowsIn ⟨nm, 1, runDef G 7 (b__law_rows_in i)⟩ := by
  refine ⟨rfl, fun n ks d st hn hk hl hd => run_rt ?_⟩
  have env0 : startE 7 [.dat d] = [some (.dat d), none, none, none, none, none, none] := rfl
  rw [env0, b__law_rows_in]
  refine RtB.set (r_newL evs_nil dats_nil) ?_
  dsimp only [List.set]
  let E : Option EV → Option EV → Option EV → Option EV → Option EV → Env := fun o2 o3 o4 o5 o6 => [some (.dat d), some (.loc st.length), o2, o3, o4, o5, o6]
  let S : List (Nat × Nat × Nat) → Store := fun acc => st ++ [.lst (acc.map (tri n))]
  refine RtB.cons (NxS.enum (enc := pd n) (all := ks) (src := none) (fun k acc env s => acc.length ≤ k * 3600 ∧ s = S acc ∧ ∃ o2 o3 o4 o5 o6, env = E o2 o3 o4 o5 o6) (rowOut n) [] (st1 := S []) ?_ (fun _ _ _ _ _ => rfl) ⟨by simp, rfl, _, _, _, _, _, rfl⟩ ?_ ?_)
  · rcases hd with rfl | rfl <;> rfl
  · rintro acc pre x r env s e ⟨ha, rfl, o2, o3, o4, o5, o6, rfl⟩
    refine ⟨E (some (.dat (.int (pre.length : Nat)))) (some (.dat (pd n x))) o4 o5 o6, rfl, ?_⟩
    have e' : ks = (pre ++ [x]) ++ r := by rw [e, List.append_assoc]; rfl
    obtain ⟨t, ht1, ht2⟩ := tail_at (m := pre.length + 1) e' (by rw [List.length_append]; rfl) hd
    have hkl : ks.length = pre.length + (r.length + 1) := by rw [e, List.length_append, List.length_cons]
    have hr : ∀ y ∈ r, y < 3 ^ n := fun y hy => hk y (by rw [e]; simp [hy])
    refine NxB.cons (NxS.enum (enc := pd n) (all := r) (src := none) (fun k acc env s => acc.length ≤ pre.length * 3600 + k * 60 ∧ s = S acc ∧ ∃ o4 o5 o6, env = E (some (.dat (.int (pre.length : Nat)))) (some (.dat (pd n x))) o4 o5 o6) (rowMid n x) acc (st1 := S acc) ?_ (fun _ _ _ _ _ => rfl) ⟨by omega, rfl, _, _, _, rfl⟩ ?_ ?_)
    · refine r_enum (r_slcF (ev_var rfl) (r_bin (ev_var rfl) ev_lit rd_dat rd_dat (bi_add _ _)) rd_dat ht1) ?_
      rcases ht2 with rfl | rfl <;> rfl
    · rintro acc1 pre1 y q env s e1 ⟨ha1, rfl, o4, o5, o6, rfl⟩
      refine ⟨E (some (.dat (.int (pre.length : Nat)))) (some (.dat (pd n x))) (some (.dat (.int (pre1.length : Nat)))) (some (.dat (pd n y))) o6, rfl, ?_⟩
      have e2 : ks = (pre ++ [x] ++ pre1 ++ [y]) ++ q := by rw [e', e1]; simp
      obtain ⟨t2, ht3, ht4⟩ := tail_at (m := pre.length + pre1.length + 2) e2 (by simp only [List.length_append, List.length_singleton]; omega) hd
      have hrl : r.length = pre1.length + (q.length + 1) := by rw [e1, List.length_append, List.length_cons]
      have hq : ∀ z ∈ q, z < 3 ^ n := fun z hz => hr z (by rw [e1]; simp [hz])
      refine NxB.cons (NxS.loop (enc := pd n) (xs := q) (src := none) (fun k acc env s => acc.length ≤ pre.length * 3600 + pre1.length * 60 + k ∧ s = S acc ∧ ∃ o6, env = E (some (.dat (.int (pre.length : Nat)))) (some (.dat (pd n x))) (some (.dat (.int (pre1.length : Nat)))) (some (.dat (pd n y))) o6) (rowIn n x y) acc1 (st1 := S acc1) ?_ (fun _ _ _ _ _ => rfl) ⟨by omega, rfl, _, rfl⟩ ?_ ?_)
      · refine r_seq (r_slcF (ev_var rfl) (r_bin (r_bin (ev_var rfl) (ev_var rfl) rd_dat rd_dat (bi_add _ _)) ev_lit rd_dat rd_dat (bi_add _ _)) rd_dat ht3) ?_
        rcases ht4 with rfl | rfl <;> rfl
      · rintro k acc2 z env s hk2 hz ⟨ha2, rfl, o6, rfl⟩
        refine ⟨E (some (.dat (.int (pre.length : Nat)))) (some (.dat (pd n x))) (some (.dat (.int (pre1.length : Nat)))) (some (.dat (pd n y))) (some (.dat (pd n z))), rfl, ?_⟩
        have t1 := callE_ok (G := G) (f := i) (es := .cons (.var 3) (.cons (.var 5) (.cons (.var 6) .nil))) (env := E (some (.dat (.int (pre.length : Nat)))) (some (.dat (pd n x))) (some (.dat (.int (pre1.length : Nat)))) (some (.dat (pd n y))) (some (.dat (pd n z)))) (st := S acc2) (evs3_ok (ev_var rfl) (ev_var rfl) (ev_var rfl)) hf h.1.symm (h.2 n x y z _ hn (hq z hz))
        cases hb : decide (z = thr n x y) with
        | true =>
          rw [hb] at t1
          have e3 : rowIn n x y acc2 z = acc2 ++ [(x, y, z)] := by unfold rowIn; rw [hb, if_pos rfl]
          refine NxB.cons (NxS.ifT t1 (NxB.exp (r_app (ev_var rfl) ⟨_, last_get st _⟩ (r_tup (r_evs (ev_var rfl) (r_evs (ev_var rfl) (r_evs (ev_var rfl) evs_nil))) (dats_cons (dats_cons (dats_cons dats_nil)))) (last_get st _) (by rw [List.length_map]; unfold LIM; omega)) ?_))
          dsimp only [S]
          rw [last_set, e3]
          refine NxB.nil (NxB.nil ⟨by rw [List.length_append, List.length_singleton]; omega, ?_, _, rfl⟩)
          rw [List.map_append]
          rfl
        | false =>
          rw [hb] at t1
          have e3 : rowIn n x y acc2 z = acc2 := by unfold rowIn; rw [hb, if_neg Bool.false_ne_true]
          refine NxB.cons (NxS.ifF t1 (NxB.nil (NxB.nil ?_)))
          rw [e3]
          exact ⟨by omega, rfl, _, rfl⟩
      · rintro e3 s ⟨h3, h4, o6', h5⟩
        refine NxB.nil ⟨?_, h4, _, _, _, h5⟩
        have : (q.foldl (rowIn n x y) acc1).length ≤ pre.length * 3600 + pre1.length * 60 + q.length := h3
        show (q.foldl (rowIn n x y) acc1).length ≤ _
        have : q.length ≤ 60 := by omega
        have : (pre1.length + 1) * 60 = pre1.length * 60 + 60 := by omega
        omega
    · rintro e3 s ⟨h3, h4, o4', o5', o6', h5⟩
      refine NxB.nil ⟨?_, h4, _, _, _, _, _, h5⟩
      have h3 : (foldE (rowMid n x) acc r).length ≤ pre.length * 3600 + r.length * 60 := h3
      show (foldE (rowMid n x) acc r).length ≤ _
      have : r.length * 60 ≤ 3600 := by omega
      omega
  · rintro e s ⟨_, rfl, o2, o3, o4, o5, o6, rfl⟩
    exact RtB.ret (ev_var rfl) fin_own
/-- in a set of ascending places all triples find the lines -/
theorem row_in_eq {n x y : Nat} {acc : List (Nat × Nat × Nat)} : ∀ {q : List Nat}, q.Nodup → q.foldl (rowIn n x y) acc = if q.contains (thr n x y) then acc ++ [(x, y, thr n x y)] else acc
  | [], _ => rfl
  | z :: q, h => by
    rw [List.nodup_cons] at h
    rw [List.foldl_cons, List.contains_cons]
    by_cases e : z = thr n x y
    · have e1 : rowIn n x y acc z = acc ++ [(x, y, thr n x y)] := by unfold rowIn; rw [decide_eq_true e, if_pos rfl, e]
      rw [e1, row_in_eq h.2, ← e, beq_self_eq_true, Bool.true_or, if_pos rfl]
      have : q.contains z = false := by rw [Bool.eq_false_iff]; intro hq; exact h.1 (List.contains_iff_mem.mp hq)
      rw [this, if_neg Bool.false_ne_true]
    · have e1 : rowIn n x y acc z = acc := by unfold rowIn; rw [decide_eq_false e, if_neg Bool.false_ne_true]
      have e2 : (thr n x y == z) = false := beq_eq_false_iff_ne.mpr fun q => e q.symm
      rw [e1, row_in_eq h.2, e2, Bool.false_or]
theorem rows_lines {n : Nat} {ks : List Nat} (h : asc ks = true) : rowsL n ks = linesL n ks := by
  have key : ∀ (pre suf : List Nat) (acc : List (Nat × Nat × Nat)), ks = pre ++ suf → foldE (rowOut n) acc suf = foldE (lstOut n ks) acc suf := by
    intro pre suf
    induction suf generalizing pre with
    | nil => intros; rfl
    | cons x r ih =>
      intro acc e
      rw [foldE, foldE]
      have e1 : rowOut n acc x r = lstOut n ks acc x r := by
        unfold rowOut lstOut
        have key2 : ∀ (p1 q : List Nat) (acc : List (Nat × Nat × Nat)), r = p1 ++ q → foldE (rowMid n x) acc q = q.foldl (lstIn n ks x) acc := by
          intro p1 q
          induction q generalizing p1 with
          | nil => intros; rfl
          | cons y q ih2 =>
            intro acc e2
            rw [foldE, List.foldl_cons]
            have e3 : ks = (pre ++ x :: p1) ++ y :: q := by rw [e, e2]; simp
            have e4 : rowMid n x acc y q = lstIn n ks x acc y := by
              unfold rowMid lstIn
              have hp := of_asc h
              rw [e3, List.pairwise_append] at hp
              have hq := List.pairwise_cons.mp hp.2.1
              rw [row_in_eq (hq.2.imp fun h => by omega)]
              have hiff : (Nat.blt y (thr n x y) && ks.contains (thr n x y)) = q.contains (thr n x y) := by
                rw [Bool.eq_iff_iff, Bool.and_eq_true, List.contains_iff_mem, List.contains_iff_mem, Nat.blt_eq]
                constructor
                · rintro ⟨h1, h2⟩
                  rw [e3] at h2
                  rcases List.mem_append.mp h2 with h2 | h2
                  · have := hp.2.2 _ h2 y List.mem_cons_self
                    omega
                  · rcases List.mem_cons.mp h2 with h2 | h2
                    · omega
                    · exact h2
                · intro h1
                  refine ⟨hq.1 _ h1, ?_⟩
                  rw [e3]
                  exact List.mem_append_right _ (List.mem_cons_of_mem _ h1)
              rw [hiff]
            rw [e4]
            exact ih2 (p1 ++ [y]) _ (by rw [e2]; simp)
        exact key2 [] r acc rfl
      rw [e1]
      exact ih (pre ++ [x]) _ (by rw [e]; simp)
  exact key [] ks [] rfl
end PD

set_option Elab.async false
set_option linter.all false
set_option maxRecDepth 100000
set_option maxHeartbeats 4000000
/-! Open places by pairs, free sets grown, complete sets counted. -/
namespace PD
open PySem
theorem closeIn_mem {n x a : Nat} : ∀ (r cs : List Nat), a ∈ r.foldl (closeIn n x) cs ↔ a ∈ cs ∨ ∃ y ∈ r, a = thr n x y
  | [], cs => by simp
  | y :: r, cs => by
    rw [List.foldl_cons, closeIn_mem r, closeIn, putC_mem]
    constructor
    · rintro ((h | h) | ⟨z, hz, h⟩)
      · exact .inl h
      · exact .inr ⟨y, List.mem_cons_self, h⟩
      · exact .inr ⟨z, List.mem_cons_of_mem _ hz, h⟩
    · rintro (h | ⟨z, hz, h⟩)
      · exact .inl (.inl h)
      · rcases List.mem_cons.mp hz with rfl | hz
        · exact .inl (.inr h)
        · exact .inr ⟨z, hz, h⟩
theorem prs_cons {x : Nat} {r : List Nat} {q : Nat × Nat} : q ∈ prs (x :: r) ↔ (q.1 = x ∧ q.2 ∈ r) ∨ q ∈ prs r := by
  rw [prs, List.mem_append, List.mem_map]
  constructor
  · rintro (⟨y, hy, rfl⟩ | h)
    · exact .inl ⟨rfl, hy⟩
    · exact .inr h
  · rintro (⟨h1, h2⟩ | h)
    · exact .inl ⟨q.2, h2, by rw [← h1]⟩
    · exact .inr h
theorem prs_of {a b : Nat} : ∀ {l : List Nat}, l.Pairwise (· < ·) → a ∈ l → b ∈ l → a < b → (a, b) ∈ prs l
  | x :: r, h, ha, hb, hab => by
    rw [List.pairwise_cons] at h
    rw [prs_cons]
    rcases List.mem_cons.mp ha with ha1 | ha1
    · rcases List.mem_cons.mp hb with hb1 | hb1
      · omega
      · exact .inl ⟨ha1, hb1⟩
    · rcases List.mem_cons.mp hb with hb1 | hb1
      · have := h.1 a ha1
        omega
      · exact .inr (prs_of h.2 ha1 hb1 hab)
theorem closed_from {n a : Nat} : ∀ (l cs : List Nat), a ∈ foldE (closeOut n) cs l ↔ a ∈ cs ∨ a ∈ l ∨ ∃ q ∈ prs l, a = thr n q.1 q.2
  | [], cs => by simp [foldE, prs]
  | x :: r, cs => by
    rw [foldE, closed_from r, closeOut, closeIn_mem, putC_mem]
    constructor
    · rintro (((h | h) | ⟨y, hy, h⟩) | h | ⟨q, hq, h⟩)
      · exact .inl h
      · exact .inr (.inl (by rw [h]; exact List.mem_cons_self))
      · exact .inr (.inr ⟨(x, y), prs_cons.mpr (.inl ⟨rfl, hy⟩), h⟩)
      · exact .inr (.inl (List.mem_cons_of_mem _ h))
      · exact .inr (.inr ⟨q, prs_cons.mpr (.inr hq), h⟩)
    · rintro (h | h | ⟨q, hq, h⟩)
      · exact .inl (.inl (.inl h))
      · rcases List.mem_cons.mp h with h | h
        · exact .inl (.inl (.inr h))
        · exact .inr (.inl h)
      · rcases prs_cons.mp hq with ⟨h1, h2⟩ | hq
        · exact .inl (.inr ⟨q.2, h2, by rw [← h1]; exact h⟩)
        · exact .inr (.inr ⟨q, hq, h⟩)
theorem closed_iff {n a : Nat} {ks : List Nat} : a ∈ closedL n ks ↔ a ∈ ks ∨ ∃ q ∈ prs ks, a = thr n q.1 q.2 := by
  rw [closedL, closed_from]
  simp
theorem hits_from {n p : Nat} : ∀ (l : List Nat) (b : Bool), foldE (fun b x r => b || !(r.filter fun y => decide (p = thr n x y)).isEmpty) b l = true ↔ b = true ∨ ∃ q ∈ prs l, p = thr n q.1 q.2
  | [], b => by simp [foldE, prs]
  | x :: r, b => by
    rw [foldE, hits_from r, Bool.or_eq_true]
    have e : (!(r.filter fun y => decide (p = thr n x y)).isEmpty) = true ↔ ∃ y ∈ r, p = thr n x y := by
      rw [Bool.not_eq_true', ← Bool.not_eq_true, List.isEmpty_iff, List.filter_eq_nil_iff]
      simp
    rw [e]
    constructor
    · rintro ((h | ⟨y, hy, h⟩) | ⟨q, hq, h⟩)
      · exact .inl h
      · exact .inr ⟨(x, y), prs_cons.mpr (.inl ⟨rfl, hy⟩), h⟩
      · exact .inr ⟨q, prs_cons.mpr (.inr hq), h⟩
    · rintro (h | ⟨q, hq, h⟩)
      · exact .inl (.inl h)
      · rcases prs_cons.mp hq with ⟨h1, h2⟩ | hq
        · exact .inl (.inr ⟨q.2, h2, by rw [← h1]; exact h⟩)
        · exact .inr ⟨q, hq, h⟩
theorem hits_iff {n p : Nat} {ks : List Nat} : hitsB n ks p = true ↔ ∃ q ∈ prs ks, p = thr n q.1 q.2 := by
  rw [hitsB, hits_from]
  simp
theorem open_mem {n p : Nat} {ks : List Nat} : p ∈ openL n ks ↔ p < 3 ^ n ∧ p ∉ ks ∧ hitsB n ks p = false := by
  unfold openL
  rw [List.mem_filter, List.mem_range, Bool.not_eq_true', ← Bool.not_eq_true, List.contains_iff_mem, closed_iff, not_or, ← hits_iff, Bool.not_eq_true]
theorem open_is (n : Nat) (ks : List Nat) : openL n ks = (List.range (3 ^ n)).filter fun p => !ks.contains p && !hitsB n ks p := by
  unfold openL
  refine List.filter_congr fun p _ => ?_
  rw [Bool.eq_iff_iff, Bool.not_eq_true', ← Bool.not_eq_true, List.contains_iff_mem, closed_iff, not_or, ← hits_iff, Bool.and_eq_true, Bool.not_eq_true', Bool.not_eq_true', ← Bool.not_eq_true, List.contains_iff_mem, Bool.not_eq_true]
theorem open_nodup (n : Nat) (ks : List Nat) : (openL n ks).Nodup := List.Pairwise.filter _ List.nodup_range
theorem TT_thr {n : Nat} (h : 1 ≤ n ∧ n ≤ 3) : ∀ t ∈ TT n, t.1 = thr n t.2.1 t.2.2 ∧ t.2.1 = thr n t.1 t.2.2 ∧ t.2.2 = thr n t.1 t.2.1 := by
  rcases n3 h with rfl | rfl | rfl <;> decide +kernel
theorem hits_of {n p a b : Nat} {ks : List Nat} (hk : asc ks = true) (ha : a ∈ ks) (hb : b ∈ ks) (hab : a < b) (hp : p = thr n a b) : hitsB n ks p = true := hits_iff.mpr ⟨(a, b), prs_of (of_asc hk) ha hb hab, hp⟩
theorem grow_set {n p : Nat} {ks : List Nat} (h : SetOk n ks) (hp : p < 3 ^ n) (hk : p ∉ ks) : SetOk n (sortN (ks ++ [p])) := by
  have hl := set27 h
  refine ⟨⟨h.1.1, fun a ha => ?_, by rw [sortN_len, List.length_append, List.length_singleton]; omega⟩, sortN_asc ?_⟩
  · rcases List.mem_append.mp (sortN_mem.mp ha) with ha | ha
    · exact h.1.2.1 a ha
    · rw [List.mem_singleton.mp ha]; exact hp
  · rw [List.nodup_append]
    refine ⟨asc_nodup h.2, by simp, ?_⟩
    rintro a ha b hb rfl
    exact hk (by rw [← List.mem_singleton.mp hb]; exact ha)
theorem grow_free {n p : Nat} {ks : List Nat} (h : SetOk n ks) (hf : linesL n ks = []) (hp : p ∈ openL n ks) : linesL n (sortN (ks ++ [p])) = [] := by
  obtain ⟨hp1, hp2, hp3⟩ := open_mem.mp hp
  rw [linesT (grow_set h hp1 hp2), List.filter_eq_nil_iff]
  rw [linesT h, List.filter_eq_nil_iff] at hf
  intro t ht hin
  unfold inAll at hin
  rw [Bool.and_eq_true, Bool.and_eq_true, List.contains_iff_mem, List.contains_iff_mem, List.contains_iff_mem, sortN_mem, sortN_mem, sortN_mem] at hin
  have hno := hf t ht
  unfold inAll at hno
  rw [Bool.and_eq_true, Bool.and_eq_true, List.contains_iff_mem, List.contains_iff_mem, List.contains_iff_mem] at hno
  have hlt := TT_lt h.1.1 t ht
  have hth := TT_thr h.1.1 t ht
  have at_ : ∀ a, a ∈ ks ++ [p] → a ∈ ks ∨ a = p := fun a ha => (List.mem_append.mp ha).imp id fun h => List.mem_singleton.mp h
  have nf : hitsB n ks p ≠ true := by rw [hp3]; exact Bool.false_ne_true
  rcases at_ _ hin.1 with h1 | h1
  · rcases at_ _ hin.2.1 with h2 | h2
    · rcases at_ _ hin.2.2 with h3 | h3
      · exact hno ⟨h1, h2, h3⟩
      · exact nf (hits_of h.2 h1 h2 hlt.1 (by rw [← h3]; exact hth.2.2))
    · rcases at_ _ hin.2.2 with h3 | h3
      · exact nf (hits_of h.2 h1 h3 (by omega) (by rw [← h2]; exact hth.2.1))
      · omega
  · rcases at_ _ hin.2.1 with h2 | h2
    · rcases at_ _ hin.2.2 with h3 | h3
      · exact nf (hits_of h.2 h2 h3 hlt.2.1 (by rw [← h1]; exact hth.1))
      · omega
    · omega
theorem prs_grow {n p : Nat} {ks : List Nat} (h : SetOk n ks) {q : Nat × Nat} (hq : q ∈ prs ks) (hk : SetOk n (sortN (ks ++ [p]))) : q ∈ prs (sortN (ks ++ [p])) := by
  have hm := prs_mem hq
  have hlt : q.1 < q.2 := by
    have key : ∀ l : List Nat, l.Pairwise (· < ·) → q ∈ prs l → q.1 < q.2 := fun l => by
      induction l with
      | nil => intro _ h; simp [prs] at h
      | cons x r ih =>
        intro hp hq
        rw [List.pairwise_cons] at hp
        rcases prs_cons.mp hq with ⟨h1, h2⟩ | hq
        · rw [h1]; exact hp.1 _ h2
        · exact ih hp.2 hq
    exact key ks (of_asc h.2) hq
  exact prs_of (of_asc hk.2) (sortN_mem.mpr (List.mem_append_left _ hm.1)) (sortN_mem.mpr (List.mem_append_left _ hm.2)) hlt
theorem grow_open {n p : Nat} {ks r : List Nat} (h : SetOk n ks) (ho : openL n ks = p :: r) : openL n (sortN (ks ++ [p])) = r.filter fun x => !hitsB n (sortN (ks ++ [p])) x := by
  have hp := open_mem.mp (show p ∈ openL n ks by rw [ho]; exact List.mem_cons_self)
  have hs := grow_set h hp.1 hp.2.1
  have hnd := open_nodup n ks
  rw [ho, List.nodup_cons] at hnd
  have e1 : openL n (sortN (ks ++ [p])) = (openL n ks).filter fun x => !decide (x = p) && !hitsB n (sortN (ks ++ [p])) x := by
    rw [open_is n (sortN _), open_is n ks, List.filter_filter]
    refine List.filter_congr fun x _ => ?_
    have e : (sortN (ks ++ [p])).contains x = (ks.contains x || decide (x = p)) := by
      rw [Bool.eq_iff_iff, Bool.or_eq_true, List.contains_iff_mem, List.contains_iff_mem, sortN_mem, List.mem_append, List.mem_singleton, decide_eq_true_eq]
    have mono : hitsB n ks x = true → hitsB n (sortN (ks ++ [p])) x = true := fun hh => by
      obtain ⟨q, hq, hx⟩ := hits_iff.mp hh
      exact hits_iff.mpr ⟨q, prs_grow h hq hs, hx⟩
    rw [e]
    cases hx : hitsB n (sortN (ks ++ [p])) x with
    | true => simp
    | false =>
      have : hitsB n ks x = false := by
        cases hy : hitsB n ks x with
        | false => rfl
        | true => rw [mono hy] at hx; cases hx
      rw [this]
      cases ks.contains x <;> cases decide (x = p) <;> rfl
  rw [e1, ho, List.filter_cons, if_neg (by simp)]
  refine List.filter_congr fun x hx => ?_
  have : decide (x = p) = false := decide_eq_false fun e => hnd.1 (by rw [← e]; exact hx)
  rw [this]
  rfl
/-! complete sets -/
theorem sub_len : ∀ {xs ys : List Nat}, xs.Nodup → (∀ a ∈ xs, a ∈ ys) → xs.length ≤ ys.length
  | [], _, _, _ => Nat.zero_le _
  | x :: r, ys, h, hs => by
    rw [List.nodup_cons] at h
    have hx := hs x List.mem_cons_self
    have ih := sub_len (ys := ys.erase x) h.2 fun a ha => (List.mem_erase_of_ne fun e => h.1 (by rw [← e]; exact ha)).mpr (hs a (List.mem_cons_of_mem _ ha))
    rw [List.length_erase_of_mem hx] at ih
    have : 0 < ys.length := List.length_pos_of_mem hx
    rw [List.length_cons]
    omega
theorem full_count {n : Nat} {ks : List Nat} (ho : openL n ks = []) : 3 ^ n ≤ ks.length + (prs ks).length := by
  have := sub_len (xs := List.range (3 ^ n)) (ys := ks ++ (prs ks).map fun q => thr n q.1 q.2) List.nodup_range fun a ha => by
    have hn : a ∉ openL n ks := by rw [ho]; simp
    rw [open_mem] at hn
    rw [List.mem_append]
    by_cases hk : a ∈ ks
    · exact .inl hk
    · right
      have hh : hitsB n ks a = true := by
        cases hh : hitsB n ks a with
        | true => rfl
        | false => exact absurd ⟨List.mem_range.mp ha, hk, hh⟩ hn
      obtain ⟨q, hq, e⟩ := hits_iff.mp hh
      exact List.mem_map.mpr ⟨q, hq, e.symm⟩
  rw [List.length_range, List.length_append, List.length_map] at this
  exact this
theorem full {n : Nat} {ks : List Nat} (h : SetOk n ks) (hf : linesL n ks = []) (ho : openL n ks = []) : ks.length ≤ mostN n ∧ (n < 3 → ks.length = mostN n) ∧ (n = 3 → 7 ≤ ks.length) := by
  have h1 := cap h hf
  have h2 := full_count ho
  have h3 := prs_len ks
  generalize (prs ks).length = m at h2 h3
  generalize ks.length = k at h1 h2 h3
  have sq : ∀ c, k ≤ c → k * k ≤ c * c := fun c hc => Nat.mul_le_mul hc hc
  rcases n3 h.1.1 with rfl | rfl | rfl
  · refine ⟨h1, fun _ => ?_, fun h => by omega⟩
    have h1 : k ≤ 2 := h1
    show k = 2
    have h2 : 3 ≤ k + m := h2
    by_cases hk : k ≤ 1
    · have := sq 1 hk
      omega
    · omega
  · refine ⟨h1, fun _ => ?_, fun h => by omega⟩
    have h1 : k ≤ 4 := h1
    show k = 4
    have h2 : 9 ≤ k + m := h2
    by_cases hk : k ≤ 3
    · have := sq 3 hk
      omega
    · omega
  · refine ⟨h1, fun h => by omega, fun _ => ?_⟩
    have h2 : 27 ≤ k + m := h2
    by_cases hk : k ≤ 6
    · have := sq 6 hk
      omega
    · omega
/-! the end of a while -/
theorem loopW_end {σ : Type} (P : σ → Prop) (m : σ → Nat) (c : σ → Bool) (step : σ → σ) (hs : ∀ s, P s → c s = true → m (step s) < m s ∧ P (step s)) : ∀ (k : Nat) (s : σ), m s ≤ k → P s → P (loopW c step k s) ∧ c (loopW c step k s) = false
  | 0, s, hm, hp => by
    refine ⟨hp, ?_⟩
    cases hc : c s with
    | false => exact hc
    | true => have := (hs s hp hc).1; omega
  | k + 1, s, hm, hp => by
    rw [loopW]
    cases hc : c s with
    | false => exact ⟨hp, hc⟩
    | true =>
      obtain ⟨h1, h2⟩ := hs s hp hc
      exact loopW_end P m c step hs k (step s) (by omega) h2
theorem compl_is {n : Nat} {ks : List Nat} (h : SetOk n ks) (hf : linesL n ks = []) : SetOk n (complL n ks) ∧ linesL n (complL n ks) = [] ∧ openL n (complL n ks) = [] := by
  have := loopW_end (fun ks => SetOk n ks ∧ linesL n ks = []) (leftN n) (fun ks => !(openL n ks).isEmpty) (growC n) (fun s hp hc => by
    unfold growC
    cases ho : openL n s with
    | nil => rw [ho] at hc; cases hc
    | cons p r =>
      have hm : p ∈ openL n s := by rw [ho]; exact List.mem_cons_self
      have hp2 := open_lt hm
      exact ⟨left_add hp2.1 hp2.2, grow_set hp.1 hp2.1 hp2.2, grow_free hp.1 hp.2 hm⟩) 27 ks (Nat.le_trans (left_le n ks) (p27 h.1.1)) ⟨h, hf⟩
  refine ⟨this.1.1, this.1.2, List.isEmpty_iff.mp ?_⟩
  have e := this.2
  rw [Bool.not_eq_false'] at e
  exact e
theorem NxS.whlR {G : List Fn} {t : IE} {a : IB} {env : Env} {st : Store} {P : Env → Store → Prop} (I : Nat → Env → Store → Prop) (k : Nat) (hi : I k env st) (hk : k < 100000) (h : ∀ k env st, I k env st → ∃ b, ev G t env st = .ok (.dat (.bool b)) st ∧ (b = false → P env st) ∧ (b = true → NxB G a env st fun e s => ∃ j, j < k ∧ I j e s)) : NxS G (.whl t a) env st P := by
  have key : ∀ (f k : Nat) (env : Env) (st : Store), k < f → I k env st → ∃ e s, whileL (fun env st => ev G t env st) (fun env st => exB G a env st) f env st = .nx e s ∧ P e s := fun f => by
    induction f with
    | zero => intro k _ _ h; omega
    | succ f ih =>
      intro k env st hk hi
      obtain ⟨b, h1, h2, h3⟩ := h k env st hi
      rw [whileL, h1]
      cases b with
      | false => exact ⟨env, st, rfl, h2 rfl⟩
      | true =>
        obtain ⟨e, s, h4, j, h5, h6⟩ := h3 rfl
        obtain ⟨e2, s2, h7, h8⟩ := ih j e s (by omega) h6
        refine ⟨e2, s2, ?_, h8⟩
        show (exB G a env st).bind _ = _
        rw [h4]
        exact h7
  obtain ⟨e, s, h1, h2⟩ := key fuel k env st hk hi
  exact ⟨e, s, h1, h2⟩
/-! asking -/
theorem isAsk3 {nm : Str} {G : List Fn} {i j k : Nat} {f g h : Fn} (hf : G[i]? = some f) (af : f.ar = 2) (hg : G[j]? = some g) (ag : g.ar = 2) (hh : G[k]? = some h) (ah : h.ar = 2) : IsTryIx2 [f, g, h] ⟨nm, 3, runDef G 4 (.cons (.tryW (.cons (.ret (.callIx [i, j, k] (.var 0) (.cons (.var 1) (.cons (.var 2) .nil)))) .nil)) .nil)⟩ := by
  refine isTryIx2 rfl fun a b c h1 h2 => ?_
  match a with
  | 0 => cases h1; cases h2; exact ⟨hf, af⟩
  | 1 => cases h1; cases h2; exact ⟨hg, ag⟩
  | 2 => cases h1; cases h2; exact ⟨hh, ah⟩
  | a + 3 => cases h1
theorem IsTryIx2.c {gs : List Fn} {f : Fn} (k : IsTryIx2 gs f) {G : List Fn} {i j : Nat} (hg : G[i]? = some f) {g : Fn} (hj : gs[j]? = some g) {x y : EV} {d : PyData} {st : Store} (h : g.den [x, y] st = .ok (.dat d) st) : callI G i [.dat (.int (j : Nat)), x, y] st = .ok (.dat d) st := callI_of hg k.1.symm (k.2.1 j g x y d st hj h)
theorem IsTryIx2.x {gs : List Fn} {f : Fn} (k : IsTryIx2 gs f) {G : List Fn} {i j c : Nat} (hg : G[i]? = some f) {g : Fn} (hj : gs[j]? = some g) {x y : EV} {st : Store} (hc : c < 10) (h : g.den [x, y] st = .exc c st) : callI G i [.dat (.int (j : Nat)), x, y] st = .ok (.dat (raised c)) st := callI_of hg k.1.symm (k.2.2 j g x y c st hc hj h)
theorem IsTry2.c {f g : Fn} (k : IsTry2 g f) {G : List Fn} {i : Nat} (hg : G[i]? = some f) {x y : EV} {d : PyData} {st : Store} (h : g.den [x, y] st = .ok (.dat d) st) : callI G i [x, y] st = .ok (.dat d) st := callI_of hg k.1.symm (k.2.1 x y d st h)
theorem IsTry2.x {f g : Fn} (k : IsTry2 g f) {G : List Fn} {i c : Nat} (hg : G[i]? = some f) {x y : EV} {st : Store} (hc : c < 10) (h : g.den [x, y] st = .exc c st) : callI G i [x, y] st = .ok (.dat (raised c)) st := callI_of hg k.1.symm (k.2.2 x y c st hc h)
theorem rep_self (c n : Nat) : cmpI .Eq (.list (List.replicate n (raised c))) (.list (List.replicate n (raised c))) = some true := ci_self (shaped_rep (raised_shaped c) (by simp [raised, PyData.depth, PyData.depthAll]) n)
end PD

set_option Elab.async false
set_option linter.all false
set_option maxRecDepth 100000
set_option maxHeartbeats 4000000
/-! Lines that a set cuts through, counted by pairs; things that are no sets. -/
namespace PD
open PySem
theorem prs_mix (p : Nat → Bool) : ∀ l : List Nat, ((prs l).filter fun q => p q.1 != p q.2).length = (l.filter p).length * (l.filter fun x => !p x).length
  | [] => rfl
  | x :: r => by
    have ih := prs_mix p r
    have e : ∀ (g : Nat × Nat → Bool) (l : List Nat), ((l.map fun y => (x, y)).filter g).length = (l.filter fun y => g (x, y)).length := fun g l => by
      rw [List.filter_map, List.length_map]
      rfl
    rw [prs, List.filter_append, List.length_append, ih, e, List.filter_cons, List.filter_cons]
    cases hp : p x with
    | true =>
      have : (r.filter fun y => p (x, y).1 != p (x, y).2) = r.filter fun y => !p y := List.filter_congr fun y _ => by
        show (p x != p y) = _
        rw [hp]
        cases p y <;> rfl
      rw [this, if_pos rfl, if_neg (by decide), List.length_cons, Nat.add_mul]
      omega
    | false =>
      have : (r.filter fun y => p (x, y).1 != p (x, y).2) = r.filter p := List.filter_congr fun y _ => by
        show (p x != p y) = _
        rw [hp]
        cases p y <;> rfl
      rw [this, if_neg (by decide)]
      simp only [Bool.not_false, if_true, List.length_cons, Nat.mul_add]
      omega
def inN (ks : List Nat) (t : Nat × Nat × Nat) : Nat := ([t.1, t.2.1, t.2.2].filter fun x => ks.contains x).length
def pureB (ks : List Nat) (t : Nat × Nat × Nat) : Bool := hasS [.int 0, .int 3] (.int ((inN ks t : Nat) : Int))
theorem pure_is (ks : List Nat) (t : Nat × Nat × Nat) : pureB ks t = (inAll ks t || (!ks.contains t.1 && (!ks.contains t.2.1 && !ks.contains t.2.2))) := by
  unfold pureB inN inAll
  simp only [List.filter_cons, List.filter_nil]
  cases ks.contains t.1 <;> cases ks.contains t.2.1 <;> cases ks.contains t.2.2 <;> rfl
theorem flat3_mix (ks : List Nat) : ∀ l : List (Nat × Nat × Nat), ((flat3 l).filter fun q => ks.contains q.1 != ks.contains q.2.1).length = 2 * (l.filter fun t => !pureB ks t).length
  | [] => rfl
  | t :: r => by
    have ih := flat3_mix ks r
    have e : flat3 (t :: r) = [(t.1, t.2.1, t.2.2), (t.1, t.2.2, t.2.1), (t.2.1, t.2.2, t.1)] ++ flat3 r := rfl
    rw [e, List.filter_append, List.length_append, ih, List.filter_cons (x := t) (p := fun t => !pureB ks t), pure_is]
    unfold inAll
    simp only [List.filter_cons, List.filter_nil]
    cases ks.contains t.1 <;> cases ks.contains t.2.1 <;> cases ks.contains t.2.2 <;> simp <;> omega
theorem all_perm {n : Nat} (h : 1 ≤ n ∧ n ≤ 3) : (allP n).Perm (flat3 (TT n)) := by
  refine List.isPerm_iff.mp ?_
  rcases n3 h with rfl | rfl | rfl
  · exact perm1
  · exact perm2
  · exact perm3
theorem mix_count {n : Nat} {ks : List Nat} (h : SetOk n ks) : ks.length * (outL n ks).length = 2 * ((TT n).filter fun t => !pureB ks t).length := by
  rw [← flat3_mix, ← ((all_perm h.1.1).filter _).length_eq]
  unfold allP
  rw [List.filter_map, List.length_map]
  have := prs_mix (fun x => ks.contains x) (List.range (3 ^ n))
  rw [← asc_filter h.2 h.1.2.1] at this
  exact this.symm
theorem pure_count {n : Nat} {ks : List Nat} (h : SetOk n ks) : pureN n ks = (((TT n).filter (pureB ks)).length : Nat) := by
  have h1 := mix_count h
  have h2 := filter_parts (pureB ks) (TT n)
  have h3 := out_len h.2 h.1.2.1
  have h4 : (((3 ^ n : Nat) : Int) * (((3 ^ n : Nat) : Int) - 1) / 6) = ((TT n).length : Nat) := by
    rcases n3 h.1.1 with rfl | rfl | rfl <;> decide +kernel
  have h5 : ((3 ^ n : Nat) : Int) - (ks.length : Int) = ((outL n ks).length : Nat) := by omega
  unfold pureN
  rw [h4, h5, ← Int.natCast_mul, h1]
  omega
theorem pure_parts {n : Nat} {ks : List Nat} (h : SetOk n ks) : ((TT n).filter (pureB ks)).length = (linesL n ks).length + (linesL n (outL n ks)).length := by
  rw [linesT h, linesT (out_set ks h.1.1)]
  have hout : ∀ a, a < 3 ^ n → (outL n ks).contains a = !ks.contains a := fun a ha => by
    unfold outL
    rw [Bool.eq_iff_iff, List.contains_iff_mem, List.mem_filter, List.mem_range]
    exact ⟨fun q => q.2, fun q => ⟨ha, q⟩⟩
  have key : ∀ l : List (Nat × Nat × Nat), (∀ t ∈ l, t.1 < 3 ^ n ∧ t.2.1 < 3 ^ n ∧ t.2.2 < 3 ^ n) → (l.filter (pureB ks)).length = (l.filter (inAll ks)).length + (l.filter (inAll (outL n ks))).length := fun l => by
    induction l with
    | nil => intro _; rfl
    | cons t r ih =>
      intro ht
      obtain ⟨a, b, c⟩ := ht t List.mem_cons_self
      rw [List.filter_cons, List.filter_cons, List.filter_cons, pure_is]
      have e : inAll (outL n ks) t = (!ks.contains t.1 && (!ks.contains t.2.1 && !ks.contains t.2.2)) := by
        unfold inAll
        rw [hout _ a, hout _ b, hout _ c]
      rw [e]
      unfold inAll
      have ih := ih fun t h => ht t (List.mem_cons_of_mem _ h)
      unfold inAll at ih
      cases ks.contains t.1 <;> cases ks.contains t.2.1 <;> cases ks.contains t.2.2 <;> simp only [Bool.not_true, Bool.not_false, Bool.and_true, Bool.and_false, Bool.true_and, Bool.false_and, Bool.or_false, Bool.or_true, if_true, if_false, List.length_cons, Bool.false_eq_true, ih] <;> omega
  exact key _ fun t ht => TT_all h.1.1 ht
/-! no sets -/
theorem shaped_str {s : Str} (h : PyData.strOk s = true) : SeqAt.shaped (.str s) = true := by
  unfold SeqAt.shaped
  simp [PyData.canLay0, PyData.depth, h]
theorem shaped_tt {n : Nat} (h : n ≤ 3) : SeqAt.shaped (.tuple [.tuple (List.replicate n (.bool true))]) = true := by
  have : n = 0 ∨ n = 1 ∨ n = 2 ∨ n = 3 := by omega
  rcases this with rfl | rfl | rfl | rfl <;> decide +kernel
theorem asc_twice {ks : List Nat} (h : 0 < ks.length) : asc (ks ++ ks) = false := by
  cases ha : asc (ks ++ ks) with
  | false => rfl
  | true =>
    have := asc_nodup ha
    rw [List.nodup_append] at this
    cases ks with
    | nil => simp at h
    | cons x r => exact absurd rfl (this.2.2 x List.mem_cons_self x List.mem_cons_self)
theorem asc_back {ks : List Nat} (hk : asc ks = true) (h : 1 < ks.length) : asc ks.reverse = false := by
  cases ha : asc ks.reverse with
  | false => rfl
  | true =>
    have h1 := of_asc ha
    rw [List.pairwise_reverse] at h1
    have h2 := of_asc hk
    match ks, h with
    | x :: y :: r, _ =>
      have a := (List.pairwise_cons.mp h1).1 y List.mem_cons_self
      have b := (List.pairwise_cons.mp h2).1 y List.mem_cons_self
      omega
def oddsL (n : Nat) (ks : List Nat) : List PyData := [.none, .int 5, .list [sd n ks], .list (pds n ks), sd n (ks ++ ks), .tuple [.none], .tuple [.tuple (List.replicate (n + 1) (.int 0))], .tuple [.tuple (List.replicate n (.int 3))], .tuple [.tuple (List.replicate n (.bool true))], .str (Str.ofString "0")]
def Odd (n : Nat) (ks : List Nat) (d : PyData) : Prop := (NoSet n d ∨ d = sd n ks) ∧ SeqAt.shaped d = true
theorem sd_shaped (n : Nat) (ks : List Nat) : SeqAt.shaped (sd n ks) = true := itr_shaped (sd_itr n ks) (by decide)
theorem rep_itr {n : Nat} (i : Int) : itrs 1 (List.replicate n (.int i)) = true := itrs_of fun y hy => by rw [(List.mem_replicate.mp hy).2, itr]
theorem odds_are {n : Nat} {ks : List Nat} (h : SetOk n ks) : ∀ d ∈ oddsL n ks, Odd n ks d := by
  have hl := set27 h
  have hn := h.1.1
  have one : ∀ x : PyData, fitsB n x = false → (∀ ys, x = .tuple ys → ys.length ≤ 1000) → NoSet n (.tuple [x]) := fun x h1 h2 => .inl ⟨by rw [List.all_cons, h1]; rfl, by show 1 ≤ 1000; decide, fun y hy ys e => by rw [List.mem_singleton.mp hy] at e; exact h2 ys e⟩
  intro d hd
  simp only [oddsL, List.mem_cons, List.not_mem_nil, or_false] at hd
  rcases hd with rfl | rfl | rfl | rfl | rfl | rfl | rfl | rfl | rfl | rfl
  · exact ⟨.inl (.inl trivial), by decide +kernel⟩
  · exact ⟨.inl (.inl trivial), by decide +kernel⟩
  · refine ⟨.inl (.inl trivial), itr_shaped (d := 3) ?_ (by decide)⟩
    rw [itr]
    exact itrs_of fun y hy => by rw [List.mem_singleton.mp hy]; exact sd_itr n ks
  · refine ⟨.inl (.inl trivial), itr_shaped (d := 2) ?_ (by decide)⟩
    rw [itr]
    exact pds_itr n ks
  · refine ⟨?_, sd_shaped n _⟩
    rcases Nat.eq_zero_or_pos ks.length with h0 | h0
    · right
      rw [List.eq_nil_of_length_eq_zero h0]
      rfl
    · refine .inl (.inr ⟨ks ++ ks, rfl, ⟨hn, fun k hk => ?_, by rw [List.length_append]; omega⟩, asc_twice h0⟩)
      rcases List.mem_append.mp hk with hk | hk <;> exact h.1.2.1 k hk
  · exact ⟨.inl (one _ rfl fun ys e => by cases e), by decide +kernel⟩
  · refine ⟨.inl (one _ ?_ fun ys e => by cases e; rw [List.length_replicate]; omega), itr_shaped (d := 3) ?_ (by decide)⟩
    · rw [fitsB, List.length_replicate, decide_eq_false (by omega)]
      rfl
    · rw [itr]
      exact itrs_of fun y hy => by rw [List.mem_singleton.mp hy, itr]; exact rep_itr 0
  · refine ⟨.inl (one _ ?_ fun ys e => by cases e; rw [List.length_replicate]; omega), itr_shaped (d := 3) ?_ (by decide)⟩
    · rcases n3 hn with rfl | rfl | rfl <;> rfl
    · rw [itr]
      exact itrs_of fun y hy => by rw [List.mem_singleton.mp hy, itr]; exact rep_itr 3
  · refine ⟨.inl (one _ ?_ fun ys e => by cases e; rw [List.length_replicate]; omega), shaped_tt hn.2⟩
    rcases n3 hn with rfl | rfl | rfl <;> rfl
  · exact ⟨.inl (.inl trivial), by decide +kernel⟩
theorem back_odd {n : Nat} {ks : List Nat} (h : SetOk n ks) (h1 : 1 < ks.length) : Odd n ks (sd n ks.reverse) :=
  ⟨.inl (.inr ⟨ks.reverse, rfl, ⟨h.1.1, fun k hk => h.1.2.1 k (List.mem_reverse.mp hk), by rw [List.length_reverse]; exact h.1.2.2⟩, asc_back h.2 h1⟩), sd_shaped n _⟩
theorem odd_cmp {n : Nat} {ks : List Nat} {d : PyData} (h : Odd n ks d) : ∃ b, cmpI .NotEq d (sd n ks) = some b ∧ (b = true → NoSet n d) := by
  have hs : cmpI .Eq d (sd n ks) = some (PyData.eqv d (sd n ks)) := by
    refine ci ?_
    show (if shape2 d (sd n ks) then some (PyData.eqv d (sd n ks)) else none) = _
    rw [if_pos (by unfold shape2; rw [h.2, sd_shaped]; rfl)]
  refine ⟨_, ci_ne hs, fun hb => ?_⟩
  rcases h.1 with h1 | rfl
  · exact h1
  · rw [eqv_self _ (by have := h.2; unfold SeqAt.shaped at this; rw [Bool.and_eq_true] at this; exact this.1)] at hb
    cases hb
/-! asking one of four -/
theorem isAsk4 {nm : Str} {G : List Fn} {i j k l : Nat} {f g h m : Fn} (hf : G[i]? = some f) (af : f.ar = 2) (hg : G[j]? = some g) (ag : g.ar = 2) (hh : G[k]? = some h) (ah : h.ar = 2) (hm : G[l]? = some m) (am : m.ar = 2) : IsTryIx2 [f, g, h, m] ⟨nm, 3, runDef G 4 (.cons (.tryW (.cons (.ret (.callIx [i, j, k, l] (.var 0) (.cons (.var 1) (.cons (.var 2) .nil)))) .nil)) .nil)⟩ := by
  refine isTryIx2 rfl fun a b c h1 h2 => ?_
  match a with
  | 0 => cases h1; cases h2; exact ⟨hf, af⟩
  | 1 => cases h1; cases h2; exact ⟨hg, ag⟩
  | 2 => cases h1; cases h2; exact ⟨hh, ah⟩
  | 3 => cases h1; cases h2; exact ⟨hm, am⟩
  | a + 4 => cases h1
end PD

set_option Elab.async false
set_option linter.all false
set_option maxRecDepth 100000
set_option maxHeartbeats 4000000
/-! _law_small_ones -/
namespace PD
open PySem
local macro_rules | `(tactic| array_get_dec) => `(tactic| first
  | assumption
  | exact List.mem_range.mp (by assumption)
  | exact rfl
  | omega
  | skip)
local macro_rules | `(tactic| clean_wf) => `(tactic| first
  | exact bi_add _ _
  | exact bi_sub _ _
  | exact bi_mod _ _ (by decide)
  | exact bi_div _ _ (by decide) (by decide)
  | exact bi_mul _ _ (.inr (by decide +kernel))
  | exact bi_mul _ _ (.inl (by decide +kernel))
  | (apply bi_cat <;> array_get_dec)
  | (apply bi_catT <;> array_get_dec)
  | (apply_assumption <;> array_get_dec)
  | skip)
local macro_rules | `(tactic| simp_wf) => `(tactic| first
  | exact ci_int _ _
  | exact ci_lt _ _
  | exact ci_gt _ _
  | exact ci_le _ _
  | exact ci_ge _ _
  | exact ci_isB _ _
  | (apply ci_ne <;> simp_wf)
  | (apply ci_nin <;> simp_wf)
  | (apply ci_isnot <;> simp_wf)
  | (apply ci_pdlt <;> array_get_dec)
  | (apply ci_eq <;> simp_wf)
  | (apply ci_in <;> simp_wf)
  | (apply ci_inT <;> simp_wf)
  | exact IT.int _
  | exact IT.of (pd_itr _ _) (by decide)
  | exact IT.of (sd_itr _ _) (by decide)
  | exact IT.of (tri_itr _ _) (by decide)
  | exact IT.of (linesD_itr _ _) (by decide)
  | (apply IT.list <;> simp_wf)
  | (apply IT.tuple <;> simp_wf)
  | exact ITs.nil
  | exact ITs.map (fun _ _ => pd_itr _ _) (by decide)
  | exact ITs.map (fun _ _ => tri_itr _ _) (by decide)
  | exact ITs.cons (pd_itr _ _) (by decide) (by simp_wf)
  | (apply ITs.append <;> simp_wf)
  | (apply_assumption <;> array_get_dec)
  | skip)
local macro_rules | `(tactic| bv_omega) => `(tactic| first
  | with_reducible exact ev_lit
  | ((with_reducible apply ev_var) <;> exact rfl)
  | with_reducible exact evs_nil
  | ((with_reducible apply r_evs) <;> bv_omega)
  | ((with_reducible apply r_call) <;> bv_omega)
  | ((with_reducible show callI _ _ _ _ = _); apply_assumption <;> array_get_dec)
  | ((with_reducible apply r_callIx) <;> bv_omega)
  | ((with_reducible apply r_bin) <;> bv_omega)
  | ((with_reducible apply r_cmp) <;> bv_omega)
  | ((with_reducible apply r_chain) <;> bv_omega)
  | ((with_reducible apply and_ok) <;> bv_omega)
  | ((with_reducible apply or_ok) <;> bv_omega)
  | ((with_reducible apply Eq.trans one_is) <;> bv_omega)
  | ((with_reducible apply not_ok) <;> bv_omega)
  | ((with_reducible apply r_ite) <;> bv_omega)
  | ((with_reducible apply r_neg) <;> bv_omega)
  | ((with_reducible apply r_tup) <;> bv_omega)
  | ((with_reducible apply r_lst) <;> bv_omega)
  | ((with_reducible apply r_newL) <;> bv_omega)
  | ((with_reducible apply r_blt) <;> bv_omega)
  | ((with_reducible apply r_ix) <;> bv_omega)
  | ((with_reducible apply r_slcF) <;> bv_omega)
  | ((with_reducible apply r_slcT) <;> bv_omega)
  | ((with_reducible apply r_slcB) <;> bv_omega)
  | ((with_reducible apply r_rev) <;> bv_omega)
  | ((with_reducible apply r_newLst) <;> bv_omega)
  | ((with_reducible apply r_isT) <;> bv_omega)
  | ((with_reducible apply r_map) <;> bv_omega)
  | ((with_reducible apply r_fil) <;> bv_omega)
  | ((with_reducible apply r_seq) <;> bv_omega)
  | ((with_reducible apply r_enum) <;> bv_omega)
  | ((with_reducible apply r_range) <;> bv_omega)
  | ((with_reducible show binI _ _ _ = _); clean_wf)
  | ((with_reducible show cmpI _ _ _ = _); simp_wf)
  | with_reducible exact dats_nil
  | ((with_reducible apply dats_cons) <;> bv_omega)
  | with_reducible exact rds_nil
  | ((with_reducible apply rds_cons) <;> bv_omega)
  | with_reducible exact rd_dat
  | ((with_reducible apply rd_loc) <;> exact rfl)
  | ((with_reducible apply cv_dat) <;> bv_omega)
  | ((with_reducible apply cv_in) <;> bv_omega)
  | ((with_reducible apply cv_nin) <;> bv_omega)
  | ((with_reducible apply cv_eq) <;> bv_omega)
  | ((with_reducible apply cv_ne) <;> bv_omega)
  | exact fun _ _ => rfl
  | ((with_reducible show guardOk _ _ = true); first | exact rfl | exact guard_self rfl)
  | exact rfl
  | (show List.length _ ≤ LIM; array_get_dec)
  | (intro _; bv_omega)
  | skip)
def setB (n : Nat) (ks : List Nat) : Bool := decide (1 ≤ n ∧ n ≤ 3) && (ks.all (fun k => Nat.blt k (3 ^ n)) && (Nat.ble ks.length 900 && asc ks))
theorem set_of_b {n : Nat} {ks : List Nat} (h : setB n ks = true) : SetOk n ks := by
  unfold setB at h
  simp only [Bool.and_eq_true, decide_eq_true_eq, List.all_eq_true, Nat.blt_eq, Nat.ble_eq] at h
  exact ⟨⟨h.1, h.2.1, h.2.2.1⟩, h.2.2.2⟩
theorem ci_isT {b c : Bool} : cmpI .Is (.bool b) (.bool c) = some (decide (b = c)) := ci_isB b c
theorem r_evs0' {G : List Fn} {env : Env} {st : Store} : evs G .nil env st = .ok [] st := rfl
def IsSmallOnes (f : Fn) : Prop := f.ar = 0 ∧ ∀ st : Store, f.den [] st = .ok (.dat (.bool true)) st
theorem isSmallOnes {nm : Str} {G : List Fn} {c0 c1 c2 c3 c4 c5 c6 : Nat}
    {i1 i2 i3 i4 i5 i6 i7 i8 i9 i10 i11 i12 i13 i14 i15 i16 i17 i18 i19 i20 : Nat} {f1 f2 f3 f4 f5 f6 f7 f8 f9 f10 f11 f12 f13 f14 f15 f16 f17 f18 f19 f20 : Fn}
    (h1 : G[i1]? = some f1) (k1 : IsAddPlace c0 c1 c2 f1) (h2 : G[i2]? = some f2) (k2 : IsMove2 c0 c2 c3 posP f2) (h3 : G[i3]? = some f3) (k3 : IsAreAlike c2 f3)
    (h4 : G[i4]? = some f4) (k4 : Is2 c0 c2 (freeO c6 fun n ks => .inl (sd n (complL n ks))) f4) (h5 : G[i5]? = some f5) (k5 : Is2 c0 c2 (fun n ks => .inl (.int (pureN n ks))) f5)
    (h6 : G[i6]? = some f6) (k6 : Is2 c0 c2 (fun n ks => .inl (sd n (sortN (ks.map fun k => dblP n k)))) f6) (h7 : G[i7]? = some f7) (k7 : IsMove2 c0 c2 c3 excP f7) (h8 : G[i8]? = some f8) (k8 : Is2 c0 c2 (firstO c5) f8)
    (h9 : G[i9]? = some f9) (k9 : IsFreeSets c0 c4 f9) (h10 : G[i10]? = some f10) (k10 : Is1 c0 (fun n => .int (([2, 4, 9] : List Int).getD (n - 1) 0)) f10)
    (h11 : G[i11]? = some f11) (k11 : Is2 c0 c2 (freeO c6 fun n ks => .inl (.bool (openL n ks).isEmpty)) f11) (h12 : G[i12]? = some f12) (k12 : Is2 c0 c2 (fun n ks => .inl (.bool (linesL n ks).isEmpty)) f12)
    (h13 : G[i13]? = some f13) (k13 : IsIsLine c0 f13) (h14 : G[i14]? = some f14) (k14 : IsPlace c0 f14) (h15 : G[i15]? = some f15) (k15 : IsKind c2 f15) (h16 : G[i16]? = some f16) (k16 : IsKinds c4 f16)
    (h17 : G[i17]? = some f17) (k17 : Is1 c0 (fun n => linesD n (List.range (3 ^ n))) f17) (h18 : G[i18]? = some f18) (k18 : Is2 c0 c2 (fun n ks => .inl (linesD n ks)) f18)
    (h19 : G[i19]? = some f19) (k19 : Is2 c0 c2 (freeO c6 fun n ks => .inl (.list (pds n (openL n ks)))) f19) (h20 : G[i20]? = some f20) (k20 : IsThird c0 c1 f20) :
    IsSmallOnes ⟨nm, 0, runDef G 1 (b__law_small_ones i1 i2 i3 i4 i5 i6 i7 i8 i9 i10 i11 i12 i13 i14 i15 i16 i17 i18 i19 i20)⟩ := by
  refine ⟨rfl, fun st => run_dat ?_⟩
  suffices h : RtB G (b__law_small_ones i1 i2 i3 i4 i5 i6 i7 i8 i9 i10 i11 i12 i13 i14 i15 i16 i17 i18 i19 i20) (startE 1 []) st fun v s => v = .dat (.bool true) ∧ s = st by
    obtain ⟨v, s, h1, rfl, rfl⟩ := h
    exact h1
  rw [show startE 1 [] = [none] from rfl, b__law_small_ones]
  have q1 : callI G i20 [.dat (.int 2), .dat (.tuple [.int 0, .int 1]), .dat (.tuple [.int 0, .int 2])] st = .ok (.dat (pd 2 (thr 2 1 2))) st := k20.c h20 (n := 2) (a := 1) (b := 2) (by decide) (by decide) (by decide) (by decide) st
  have q2 : callI G i13 [.dat (.int 2), .dat (.tuple [.tuple [.int 0, .int 0], .tuple [.int 1, .int 1], .tuple [.int 2, .int 2]])] st = .ok (.dat (.bool (lineB 2 0 4 8))) st := callI_of h13 k13.1.symm (k13.2.1 2 0 4 8 st (by decide) (by decide) (by decide) (by decide))
  refine RtB.pass (by bv_omega) (by decide +kernel) ?_
  have q3 : callI G i17 [.dat (.int 1)] st = .ok (.dat (linesD 1 (List.range 3))) st := k17.c h17 (n := 1) (by decide) st
  refine RtB.pass (by bv_omega) (by decide +kernel) ?_
  have q4 : callI G i14 [.dat (.int 2), .dat (.tuple [.int 0, .int 2])] st = .ok (.dat (.bool (fitsB 2 (pd 2 2)))) st := callI_of h14 k14.1.symm (k14.2.1 2 (pd 2 2) st (by decide) (pd_short 2 2 (by decide)))
  have q5 : callI G i5 [.dat (.int 2), .dat (.tuple [])] st = .ok (.dat (.int (pureN 2 []))) st := k5.c h5 (n := 2) (ks := []) (set_of_b (by decide +kernel)) st
  have q6 : callI G i19 [.dat (.int 1), .dat (.tuple [.tuple [.int 0]])] st = .ok (.dat (.list (pds 1 (openL 1 [0])))) st := k19.c h19 (n := 1) (ks := [0]) (set_of_b (by decide +kernel)) st
  refine RtB.pass (by bv_omega) (by decide +kernel) ?_
  have q7 : callI G i4 [.dat (.int 1), .dat (.tuple [.tuple [.int 1]])] st = .ok (.dat (sd 1 (complL 1 [1]))) st := k4.c h4 (n := 1) (ks := [1]) (set_of_b (by decide +kernel)) st
  have q8 : callI G i10 [.dat (.int 3)] st = .ok (.dat (.int 9)) st := k10.c h10 (n := 3) (by decide) st
  have q9 : callI G i9 [.dat (.int 1), .dat (.int 1)] st = .ok (.dat (.list ((freeN 1 1).map (sd 1)))) st := callI_of h9 k9.1.symm (k9.2.1 1 1 st (by decide) (by decide))
  refine RtB.pass (by bv_omega) (by decide +kernel) ?_
  have q10 : callI G i1 [.dat (.int 1), .dat (.tuple [.tuple [.int 0], .tuple [.int 1]]), .dat (.tuple [.int 1])] st = .ok (.dat (sd 1 (sortN ([0, 1].map fun k => addP 1 k 1)))) st := callI_of h1 k1.1.symm (k1.2.1 1 [0, 1] 1 st (set_of_b (by decide +kernel)) (by decide))
  have q11 : callI G i6 [.dat (.int 1), .dat (.tuple [.tuple [.int 1]])] st = .ok (.dat (sd 1 (sortN ([1].map fun k => dblP 1 k)))) st := k6.c h6 (n := 1) (ks := [1]) (set_of_b (by decide +kernel)) st
  refine RtB.pass (by bv_omega) (by decide +kernel) ?_
  have q12 : callI G i7 [.dat (.int 2), .dat (.tuple [.tuple [.int 0, .int 1]]), .dat (.int 0), .dat (.int 1)] st = .ok (.dat (sd 2 (sortN ([1].map fun k => excP 2 0 1 k)))) st := callI_of h7 k7.1.symm (k7.2.1 2 [1] 0 1 st (set_of_b (by decide +kernel)) (by decide) (by decide) (by decide))
  have q13 : callI G i2 [.dat (.int 2), .dat (.tuple [.tuple [.int 1, .int 1]]), .dat (.int 0), .dat (.int 1)] st = .ok (.dat (sd 2 (sortN ([4].map fun k => posP 2 0 1 k)))) st := callI_of h2 k2.1.symm (k2.2.1 2 [4] 0 1 st (set_of_b (by decide +kernel)) (by decide) (by decide) (by decide))
  refine RtB.pass (by bv_omega) (by decide +kernel) ?_
  have q14 : callI G i15 [.dat (.tuple [.tuple [.int 1, .int 2]])] st = .ok (.dat (sd 2 (kindT [5]))) st := by
    rw [← kind_is (set_of_b (by decide +kernel))]
    exact callI_of h15 k15.1.symm (k15.2.1 [5] st (set_of_b (by decide +kernel)))
  have q15 : callI G i16 [.dat (.int 1)] st = .ok (.dat (.list ((sortS (kindsT 1)).map (sd 2)))) st := by
    rw [← kinds_is9 1 (by decide)]
    exact callI_of h16 k16.1.symm (k16.2.1 1 st (by decide))
  refine RtB.pass (by bv_omega) (by decide +kernel) ?_
  refine RtB.setV (.dat (sd 2 [0, 1, 3, 4])) (by bv_omega) (by rfl) ?_
  dsimp only [List.set]
  have sq : SetOk 2 [0, 1, 3, 4] := set_of_b (by decide +kernel)
  have q16 : callI G i12 [.dat (.int 2), .dat (sd 2 [0, 1, 3, 4])] st = .ok (.dat (.bool (linesL 2 [0, 1, 3, 4]).isEmpty)) st := k12.c h12 (n := 2) sq st
  have q17 : callI G i11 [.dat (.int 2), .dat (sd 2 [0, 1, 3, 4])] st = .ok (.dat (.bool (openL 2 [0, 1, 3, 4]).isEmpty)) st := k11.c h11 (n := 2) sq st
  have q18 : callI G i15 [.dat (sd 2 [0, 1, 3, 4])] st = .ok (.dat (sd 2 (kindT [0, 1, 3, 4]))) st := by
    rw [← kind_is sq]
    exact callI_of h15 k15.1.symm (k15.2.1 _ st sq)
  refine RtB.pass (by bv_omega) (by decide +kernel) ?_
  have q19 : callI G i8 [.dat (.int 2), .dat (.tuple [.tuple [.int 0, .int 0], .tuple [.int 1, .int 1], .tuple [.int 1, .int 2], .tuple [.int 2, .int 2]])] st = .ok (.dat (tri 2 (0, 4, 8))) st := k8.c h8 (n := 2) (ks := [0, 4, 5, 8]) (set_of_b (by decide +kernel)) st
  refine RtB.pass (by bv_omega) (by decide +kernel) ?_
  have q20 : callI G i18 [.dat (.int 2), .dat (.tuple [.tuple [.int 0, .int 0], .tuple [.int 0, .int 1]])] st = .ok (.dat (linesD 2 [0, 1])) st := k18.c h18 (n := 2) (ks := [0, 1]) (set_of_b (by decide +kernel)) st
  refine RtB.pass (by bv_omega) (by decide +kernel) ?_
  have s2 : SetOk 2 [0, 2, 6, 8] := set_of_b (by decide +kernel)
  have q21 : callI G i3 [.dat (sd 2 [0, 1, 3, 4]), .dat (.tuple [.tuple [.int 0, .int 0], .tuple [.int 0, .int 2], .tuple [.int 2, .int 0], .tuple [.int 2, .int 2]])] st = .ok (.dat (.bool (decide (kindT [0, 1, 3, 4] = kindT [0, 2, 6, 8])))) st := by
    rw [← alike_iff sq s2]
    exact callI_of h3 k3.1.symm (k3.2.1 [0, 1, 3, 4] [0, 2, 6, 8] st sq s2)
  exact RtB.ret (v := .dat (.bool true)) (by
    have : kindT [0, 1, 3, 4] = kindT [0, 2, 6, 8] := by decide +kernel
    rw [this] at q21
    bv_omega) ⟨rfl, rfl⟩
end PD

set_option Elab.async false
set_option linter.all false
set_option maxRecDepth 100000
set_option maxHeartbeats 0
namespace PD
section
open PySem
def b_law (i__law_ask i__law_draw i__law_grid i__law_pick i__law_same_truth i__law_some_set i__law_two i_add_place i_add_position i_double i_exchange i_is_free i_lines_in : Nat) : IB :=
  (.cons (.set 1 (.newL .nil))
  (.cons (.set 2 (.call i__law_some_set (.cons (.var 0) (.cons (.var 1) (.cons (.lit (.int 2)) (.cons (.lit (.int 9)) .nil))))))
  (.cons (.set 3 (.var 2))
  (.cons (.for_ (.one 4) (.range1 (.bin .Add (.lit (.int 3)) (.call i__law_draw (.cons (.var 0) (.cons (.var 1) (.cons (.lit (.int 3)) .nil)))))) (.cons (.set 10 (.call i__law_draw (.cons (.var 0) (.cons (.var 1) (.cons (.lit (.int 4)) .nil)))))
  (.cons (.ife (.cmp .Eq (.var 10) (.lit (.int 0))) (.cons (.set 3 (.call i_add_place (.cons (.lit (.int 2)) (.cons (.var 3) (.cons (.call i__law_pick (.cons (.var 0) (.cons (.var 1) (.cons (.call i__law_grid (.cons (.lit (.int 2)) .nil)) .nil)))) .nil)))))
  .nil) (.cons (.ife (.cmp .Eq (.var 10) (.lit (.int 1))) (.cons (.set 3 (.call i_double (.cons (.lit (.int 2)) (.cons (.var 3) .nil))))
  .nil) (.cons (.set 11 (.call i__law_draw (.cons (.var 0) (.cons (.var 1) (.cons (.lit (.int 2)) .nil)))))
  (.cons (.set 3 (.callIx [i_exchange, i_add_position] (.bin .Sub (.var 10) (.lit (.int 2))) (.cons (.lit (.int 2)) (.cons (.var 3) (.cons (.var 11) (.cons (.bin .Sub (.lit (.int 1)) (.var 11)) .nil))))))
  .nil)))
  .nil))
  .nil)))
  (.cons (.set 5 (.call i__law_ask (.cons (.var 2) .nil)))
  (.cons (.ife (.or (.cmp .NotEq (.call i__law_ask (.cons (.var 3) .nil)) (.var 5)) (.or (.cmp .NotEq (.call i__law_ask (.cons (.var 5) .nil)) (.var 5)) (.or (.cmp .Gt (.var 5) (.blt .min2 (.cons (.var 2) (.cons (.var 3) .nil)))) (.one (.cmp .NotEq (.blt .len (.cons (.var 5) .nil)) (.blt .len (.cons (.var 2) .nil))))))) (.cons (.ret (.lit (.bool false)))
  .nil) .nil)
  (.cons (.ife (.or (.cmp .IsNot (.call i__law_two (.cons (.var 2) (.cons (.var 3) .nil))) (.lit (.bool true))) (.one (.cmp .NotEq (.blt .len (.cons (.call i_lines_in (.cons (.lit (.int 2)) (.cons (.var 5) .nil))) .nil)) (.blt .len (.cons (.call i_lines_in (.cons (.lit (.int 2)) (.cons (.var 2) .nil))) .nil))))) (.cons (.ret (.lit (.bool false)))
  .nil) .nil)
  (.cons (.set 6 (.call i__law_some_set (.cons (.var 0) (.cons (.var 1) (.cons (.lit (.int 2)) (.cons (.lit (.int 9)) .nil))))))
  (.cons (.ife (.not (.call i__law_same_truth (.cons (.call i__law_two (.cons (.var 2) (.cons (.var 6) .nil))) (.cons (.cmp .Eq (.call i__law_ask (.cons (.var 6) .nil)) (.var 5)) .nil)))) (.cons (.ret (.lit (.bool false)))
  .nil) .nil)
  (.cons (.ife (.and (.call i_is_free (.cons (.lit (.int 2)) (.cons (.var 2) .nil))) (.and (.call i_is_free (.cons (.lit (.int 2)) (.cons (.var 6) .nil))) (.one (.cmp .NotEq (.call i__law_two (.cons (.var 2) (.cons (.var 6) .nil))) (.cmp .Eq (.blt .len (.cons (.var 2) .nil)) (.blt .len (.cons (.var 6) .nil))))))) (.cons (.ret (.lit (.bool false)))
  .nil) .nil)
  (.cons (.set 7 (.blt .tuple (.cons (.comp [12] (.one 12) (.seq (.call i__law_grid (.cons (.lit (.int 2)) .nil))) (.some (.cmp .NotIn (.var 12) (.var 2))) (.var 12)) .nil)))
  (.cons (.set 8 (.blt .tuple (.cons (.comp [12] (.one 12) (.seq (.call i__law_grid (.cons (.lit (.int 2)) .nil))) (.some (.cmp .NotIn (.var 12) (.var 3))) (.var 12)) .nil)))
  (.cons (.ife (.cmp .IsNot (.call i__law_two (.cons (.var 7) (.cons (.var 8) .nil))) (.lit (.bool true))) (.cons (.ret (.lit (.bool false)))
  .nil) .nil)
  (.cons (.for_ (.one 9) (.seq (.lst (.cons (.lit .none) (.cons (.lst (.cons (.var 2) .nil)) (.cons (.tup (.cons (.tup (.cons (.lit (.int 0)) (.cons (.lit (.int 1)) .nil))) (.cons (.tup (.cons (.lit (.int 0)) (.cons (.lit (.int 0)) .nil))) .nil))) (.cons (.tup (.cons (.tup (.cons (.lit (.int 0)) .nil)) .nil)) (.cons (.tup (.cons (.tup (.cons (.lit (.int 0)) (.cons (.lit (.int 0)) (.cons (.lit (.int 0)) .nil)))) .nil)) (.cons (.tup (.cons (.tup (.cons (.lit (.int 0)) (.cons (.lit (.int 3)) .nil))) .nil)) (.cons (.tup (.cons (.tup (.cons (.lit (.bool true)) (.cons (.lit (.int 0)) .nil))) .nil)) (.cons (.lit (.str "00")) .nil)))))))))) (.cons (.ife (.cmp .NotEq (.lst (.cons (.call i__law_ask (.cons (.var 9) .nil)) (.cons (.call i__law_two (.cons (.var 9) (.cons (.lit .none) .nil))) (.cons (.call i__law_two (.cons (.var 2) (.cons (.var 9) .nil))) .nil)))) (.bin .Mult (.lst (.cons (.tup (.cons (.lit (.str "raised")) (.cons (.lit (.int 2)) .nil))) .nil)) (.lit (.int 3)))) (.cons (.ret (.lit (.bool false)))
  .nil) .nil)
  .nil))
  (.cons (.ret (.lit (.bool true)))
  .nil)))))))))))))))


local macro_rules | `(tactic| array_get_dec) => `(tactic| first
  | with_reducible assumption
  | exact List.mem_range.mp (by with_reducible assumption)
  | omega
  | skip)
local macro_rules | `(tactic| clean_wf) => `(tactic| first
  | exact bi_add _ _
  | exact bi_sub _ _
  | exact bi_mod _ _ (by decide)
  | exact bi_div _ _ (by decide) (by decide)
  | exact bi_mul _ _ (.inr (by decide +kernel))
  | exact bi_mul _ _ (.inl (by decide +kernel))
  | (apply bi_cat <;> array_get_dec)
  | (apply bi_catT <;> array_get_dec)
  | (apply_assumption only [*] <;> array_get_dec)
  | skip)
local macro_rules | `(tactic| simp_wf) => `(tactic| first
  | exact ci_int _ _
  | exact ci_lt _ _
  | exact ci_gt _ _
  | exact ci_le _ _
  | exact ci_ge _ _
  | exact ci_isB _ _
  | (apply ci_ne <;> simp_wf)
  | (apply ci_nin <;> simp_wf)
  | (apply ci_isnot <;> simp_wf)
  | (apply ci_pdlt <;> array_get_dec)
  | (apply ci_eq <;> simp_wf)
  | (apply ci_in <;> simp_wf)
  | (apply ci_inT <;> simp_wf)
  | exact IT.int _
  | exact IT.of (pd_itr _ _) (by decide)
  | exact IT.of (sd_itr _ _) (by decide)
  | exact IT.of (tri_itr _ _) (by decide)
  | exact IT.of (linesD_itr _ _) (by decide)
  | (apply IT.list <;> simp_wf)
  | (apply IT.tuple <;> simp_wf)
  | exact ITs.nil
  | exact ITs.map (fun _ _ => pd_itr _ _) (by decide)
  | exact ITs.map (d := 0) (fun _ _ => by rw [itr]) (by decide)
  | exact ITs.map (fun _ _ => tri_itr _ _) (by decide)
  | exact ITs.cons (pd_itr _ _) (by decide) (by simp_wf)
  | (apply ITs.append <;> simp_wf)
  | (apply_assumption only [*] <;> array_get_dec)
  | skip)
local macro_rules | `(tactic| bv_omega) => `(tactic| first
  | with_reducible exact ev_lit
  | ((with_reducible apply ev_var) <;> exact rfl)
  | with_reducible exact evs_nil
  | ((with_reducible apply r_evs) <;> bv_omega)
  | ((with_reducible apply r_call) <;> bv_omega)
  | ((with_reducible show callI _ _ _ _ = _); apply_assumption only [*] <;> array_get_dec)
  | ((with_reducible apply r_callIx) <;> bv_omega)
  | ((with_reducible apply r_bin) <;> bv_omega)
  | ((with_reducible apply r_cmp) <;> bv_omega)
  | ((with_reducible apply r_chain) <;> bv_omega)
  | ((with_reducible apply and_ok) <;> bv_omega)
  | ((with_reducible apply or_ok) <;> bv_omega)
  | ((with_reducible apply Eq.trans one_is) <;> bv_omega)
  | ((with_reducible apply not_ok) <;> bv_omega)
  | ((with_reducible apply r_ite) <;> bv_omega)
  | ((with_reducible apply r_neg) <;> bv_omega)
  | ((with_reducible apply r_tup) <;> bv_omega)
  | ((with_reducible apply r_lst) <;> bv_omega)
  | ((with_reducible apply r_newL) <;> bv_omega)
  | ((with_reducible apply r_blt) <;> bv_omega)
  | ((with_reducible apply r_ix) <;> bv_omega)
  | ((with_reducible apply r_slcF) <;> bv_omega)
  | ((with_reducible apply r_slcT) <;> bv_omega)
  | ((with_reducible apply r_slcB) <;> bv_omega)
  | ((with_reducible apply r_rev) <;> bv_omega)
  | ((with_reducible apply r_newLst) <;> bv_omega)
  | ((with_reducible apply r_isT) <;> bv_omega)
  | ((with_reducible apply r_map) <;> bv_omega)
  | ((with_reducible apply r_fil) <;> bv_omega)
  | ((with_reducible apply r_seq) <;> bv_omega)
  | ((with_reducible apply r_enum) <;> bv_omega)
  | ((with_reducible apply r_range) <;> bv_omega)
  | ((with_reducible show binI _ _ _ = _); clean_wf)
  | ((with_reducible show cmpI _ _ _ = _); simp_wf)
  | with_reducible exact dats_nil
  | ((with_reducible apply dats_cons) <;> bv_omega)
  | with_reducible exact rds_nil
  | ((with_reducible apply rds_cons) <;> bv_omega)
  | with_reducible exact rd_dat
  | ((with_reducible apply rd_loc) <;> exact rfl)
  | ((with_reducible apply cv_dat) <;> bv_omega)
  | ((with_reducible apply cv_in) <;> bv_omega)
  | ((with_reducible apply cv_nin) <;> bv_omega)
  | ((with_reducible apply cv_eq) <;> bv_omega)
  | ((with_reducible apply cv_ne) <;> bv_omega)
  | ((with_reducible show atD _ _ = _); first | (apply_assumption only [*] <;> array_get_dec) | exact rfl)
  | exact fun _ _ => rfl
  | ((with_reducible show guardOk _ _ = true); first | exact rfl | exact guard_self rfl)
  | exact rfl
  | ((with_reducible show List.length _ ≤ LIM); array_get_dec)
  | (intro _; bv_omega)
  | skip)

-- import PDKind1 PDMix PDSmall
def IsAskKind (f : Fn) : Prop := ∃ g, IsKind 2 g ∧ IsTry1 g f
theorem isAskKind {nm : Str} {G : List Fn} {i : Nat} {g : Fn} (hg : G[i]? = some g) (k : IsKind 2 g) : IsAskKind ⟨nm, 1, runDef G 2 (.cons (.tryW (.cons (.ret (.call i (.cons (.var 0) .nil))) .nil)) .nil)⟩ := ⟨g, k, isTry1 hg k.1⟩
def IsTwo (f : Fn) : Prop := ∃ g, IsAreAlike 2 g ∧ IsTry2 g f
theorem isTwo {nm : Str} {G : List Fn} {i : Nat} {g : Fn} (hg : G[i]? = some g) (k : IsAreAlike 2 g) : IsTwo ⟨nm, 2, runDef G 3 (.cons (.tryW (.cons (.ret (.call i (.cons (.var 0) (.cons (.var 1) .nil)))) .nil)) .nil)⟩ := ⟨g, k, isTry2 hg k.1⟩
def mvsL (a : List Nat) : List (List Nat) := ((List.range 9).map fun p => moveL (fun k => addP 2 k p) a) ++ [moveL (fun k => dblP 2 k) a, moveL (excP 2 0 1) a, moveL (excP 2 1 0) a, moveL (posP 2 0 1) a, moveL (posP 2 1 0) a]
theorem mvs_nl : ∀ a ∈ subs (List.range 9), ((nlT (kindT a) == nlT a) && ((mvsL a).all fun g => nlT g == nlT a)) = true := by decide +kernel
/-- a set that a turn or more has made of another -/
def Good (own hs : List Nat) : Prop := SetOk 2 hs ∧ hs.length = own.length ∧ nlT hs = nlT own
theorem good_step {own hs : List Nat} (h : Good own hs) {f : Nat → Nat} (m : Mv 2 f) (hm : moveL f hs ∈ mvsL hs) : Good own (moveL f hs) := by
  have h1 := mvs_nl hs (set_sub9 h.1)
  rw [Bool.and_eq_true, List.all_eq_true] at h1
  exact ⟨move_set m h.1, (move_len _ _).trans h.2.1, (eq_of_beq (h1.2 _ hm)).trans h.2.2⟩
theorem good_kind {own hs : List Nat} (h : Good own hs) : kindT hs = kindT own := by
  unfold kindT
  rw [h.2.1, h.2.2]
theorem nl_is {a : List Nat} (h : SetOk 2 a) : nlT a = (linesL 2 a).length := by
  rw [linesT h]
  rfl
theorem out_kind {own hs : List Nat} (h0 : SetOk 2 own) (h : Good own hs) : kindT (outL 2 own) = kindT (outL 2 hs) := by
  have e1 := pure_count h0
  have e2 := pure_count h.1
  have e3 := pure_parts h0
  have e4 := pure_parts h.1
  have e5 : pureN 2 own = pureN 2 hs := by
    unfold pureN
    rw [h.2.1]
  have e6 := out_len h0.2 h0.1.2.1
  have e7 := out_len h.1.2 h.1.1.2.1
  have e8 := h.2.2
  rw [nl_is h0, nl_is h.1] at e8
  have s1 := out_set own h0.1.1
  have s2 := out_set hs h0.1.1
  have e9 : (outL 2 own).length = (outL 2 hs).length := by have := h.2.1; omega
  have e10 : nlT (outL 2 own) = nlT (outL 2 hs) := by
    rw [nl_is s1, nl_is s2]
    omega
  unfold kindT
  rw [e9, e10]
theorem pds_alike (n : Nat) : ∀ a b : List Nat, W.alikeAll (pds n a) (pds n b) = true
  | [], _ => by
    show W.alikeAll [] _ = true
    rw [W.alikeAll]
  | _ :: _, [] => by
    show W.alikeAll (_ :: _) [] = true
    rw [W.alikeAll]
  | x :: a, y :: b => by
    show W.alikeAll (pd n x :: pds n a) (pd n y :: pds n b) = true
    rw [W.alikeAll, pd_alike, pds_alike n a b]
    rfl
theorem sds_alike (n : Nat) (a b : List Nat) : W.alike (sd n a) (sd n b) = true := by
  unfold sd
  rw [W.alike]
  exact pds_alike n a b
theorem gt_sds {n : Nat} {a b : List Nat} (hl : b.length = a.length) (ha : ∀ k ∈ a, k < 3 ^ n) (hb : ∀ k ∈ b, k < 3 ^ n) : cmpI .Gt (sd n a) (sd n b) = some (lexN b a) := by
  refine ci ?_
  show (if W.alike (sd n a) (sd n b) && shape2 (sd n a) (sd n b) then some (W.dataLt (sd n b) (sd n a)) else none) = _
  rw [if_pos (by rw [sds_alike]; unfold shape2; rw [sd_shaped, sd_shaped]; rfl), sd_lt hl hb ha]
theorem min_two {n : Nat} {a b : List Nat} (hl : b.length = a.length) (ha : ∀ k ∈ a, k < 3 ^ n) (hb : ∀ k ∈ b, k < 3 ^ n) : bltD .min2 [sd n a, sd n b] = some (sd n (minS a [b])) := by
  have hok : minOk [sd n a, sd n b] = true := by
    unfold minOk
    have e1 : alikes [sd n a, sd n b] = true := by
      unfold alikes
      rw [show [sd n a, sd n b] = [a, b].map (sd n) from rfl, ofKs_sds]
      simp
    have e3 : PyData.depthAll [sd n a, sd n b] ≤ 64 := depth_sds n [a, b]
    rw [e1, decide_eq_true e3]
    rfl
  show (if minOk [sd n a, sd n b] then some (W.minD (sd n a) [sd n b]) else none) = _
  rw [if_pos hok, show [sd n b] = [b].map (sd n) from rfl, minD_sd [b] a ha (fun y hy => by rw [List.mem_singleton.mp hy]; exact ⟨hl, hb⟩)]
theorem same_sds {n : Nat} {a b : List Nat} (ha : ∀ k ∈ a, k < 3 ^ n) (hb : ∀ k ∈ b, k < 3 ^ n) : same (sd n a) (sd n b) = decide (b = a) := by
  have := has_sds (n := n) (a := b) hb (f := [a]) (fun c hc => by rw [List.mem_singleton.mp hc]; exact ha)
  have e : hasS ([a].map (sd n)) (sd n b) = same (sd n a) (sd n b) := Bool.or_false _
  rw [← e, this, Bool.eq_iff_iff, List.contains_iff_mem, List.mem_singleton, decide_eq_true_eq]
def offs (ks : List Nat) : List PyData := [.none, .list [sd 2 ks], sd 2 [1, 0], .tuple [.tuple [.int 0]], .tuple [.tuple [.int 0, .int 0, .int 0]], .tuple [.tuple [.int 0, .int 3]], .tuple [.tuple [.bool true, .int 0]], .str (Str.ofString "00")]
theorem offs_no (ks : List Nat) : ∀ d ∈ offs ks, NoSet 2 d := by
  have one : ∀ x : PyData, fitsB ((2 : Nat) : Int) x = false → (∀ ys, x = .tuple ys → ys.length ≤ 1000) → NoSet 2 (.tuple [x]) := fun x h1 h2 => .inl ⟨by rw [List.all_cons, h1]; rfl, by show 1 ≤ 1000; decide, fun y hy ys e => by rw [List.mem_singleton.mp hy] at e; exact h2 ys e⟩
  intro d hd
  simp only [offs, List.mem_cons, List.not_mem_nil, or_false] at hd
  rcases hd with rfl | rfl | rfl | rfl | rfl | rfl | rfl | rfl
  · exact .inl trivial
  · exact .inl trivial
  · exact .inr ⟨[1, 0], rfl, ⟨by decide, by decide, by decide⟩, by decide⟩
  · exact one _ rfl fun ys e => by cases e; decide
  · exact one _ rfl fun ys e => by cases e; decide
  · exact one _ rfl fun ys e => by cases e; decide
  · exact one _ rfl fun ys e => by cases e; decide
  · exact .inl trivial
theorem law_run {G : List Fn} {L : List Int} {c1 c3 : Nat} {i1 i2 i3 i4 i5 i6 i7 i8 i9 i10 i11 i12 i13 : Nat} {f1 f2 f3 f4 f5 f6 f7 f8 f9 f10 f11 f12 f13 : Fn}
    (h1 : G[i1]? = some f1) (k1 : IsAskKind f1) (h2 : G[i2]? = some f2) (k2 : IsDraw L f2) (h3 : G[i3]? = some f3) (k3 : IsGrid f3) (h4 : G[i4]? = some f4) (k4 : IsPick L f4)
    (h5 : G[i5]? = some f5) (k5 : IsSameTruth f5) (h6 : G[i6]? = some f6) (k6 : IsSomeSet L f6) (h7 : G[i7]? = some f7) (k7 : IsTwo f7) (h8 : G[i8]? = some f8) (k8 : IsAddPlace 0 c1 2 f8)
    (h9 : G[i9]? = some f9) (k9 : IsMove2 0 2 c3 posP f9) (h10 : G[i10]? = some f10) (k10 : Is2 0 2 (fun n ks => .inl (sd n (sortN (ks.map fun k => dblP n k)))) f10) (h11 : G[i11]? = some f11) (k11 : IsMove2 0 2 c3 excP f11)
    (h12 : G[i12]? = some f12) (k12 : Is2 0 2 (fun n ks => .inl (.bool (linesL n ks).isEmpty)) f12) (h13 : G[i13]? = some f13) (k13 : Is2 0 2 (fun n ks => .inl (linesD n ks)) f13) :
    ∃ st, runDef G 13 (b_law i1 i2 i3 i4 i5 i6 i7 i8 i9 i10 i11 i12 i13) [.dat (script L)] [] = .ok (.dat (.bool true)) st := by
  have env0 : startE 13 [.dat (script L)] = [some (.dat (script L)), none, none, none, none, none, none, none, none, none, none, none, none] := rfl
  obtain ⟨g, qk, k1⟩ := k1
  obtain ⟨g', qa, k7⟩ := k7
  have aK : ∀ (ks : List Nat) (st : Store), SetOk 2 ks → callI G i1 [.dat (sd 2 ks)] st = .ok (.dat (sd 2 (kindT ks))) st := fun ks st hs => callI_of h1 k1.1.symm (k1.2.1 _ _ st (by rw [qk.2.1 ks st hs, kind_is hs]))
  have aX : ∀ (d : PyData) (st : Store), NoSet 2 d → callI G i1 [.dat d] st = .ok (.dat (raised 2)) st := fun d st hd => callI_of h1 k1.1.symm (k1.2.2 _ 2 st (by decide) (qk.2.2 d st hd))
  have aT : ∀ (ks js : List Nat) (st : Store), SetOk 2 ks → SetOk 2 js → callI G i7 [.dat (sd 2 ks), .dat (sd 2 js)] st = .ok (.dat (.bool (decide (kindT ks = kindT js)))) st := fun ks js st hs hj => k7.c h7 (by rw [qa.2.1 ks js st hs hj, alike_iff hs hj])
  have aY : ∀ (d e : PyData) (st : Store), NoSet 2 d → callI G i7 [.dat d, .dat e] st = .ok (.dat (raised 2)) st := fun d e st hd => k7.x h7 (by decide) (qa.2.2.1 d e st hd)
  have aZ : ∀ (ks : List Nat) (e : PyData) (st : Store), SetOk 2 ks → NoSet 2 e → callI G i7 [.dat (sd 2 ks), .dat e] st = .ok (.dat (raised 2)) st := fun ks e st hs he => k7.x h7 (by decide) (qa.2.2.2 ks e st hs he)
  have cg : ∀ st, callI G i3 [.dat (.int 2)] st = .ok (.dat (.list (pds 2 (List.range (3 ^ 2))))) st := fun st => k3.c h3 (n := 2) (by decide) st
  have cL : ∀ ks st, SetOk 2 ks → callI G i13 [.dat (.int 2), .dat (sd 2 ks)] st = .ok (.dat (linesD 2 ks)) st := fun ks st hs => k13.c h13 (n := 2) hs st
  have cF : ∀ ks st, SetOk 2 ks → callI G i12 [.dat (.int 2), .dat (sd 2 ks)] st = .ok (.dat (.bool (linesL 2 ks).isEmpty)) st := fun ks st hs => k12.c h12 (n := 2) hs st
  suffices h : RtB G (b_law i1 i2 i3 i4 i5 i6 i7 i8 i9 i10 i11 i12 i13) (startE 13 [.dat (script L)]) [] fun v s => v = .dat (.bool true) by
    obtain ⟨v, s, h1, rfl⟩ := h
    exact ⟨_, run_ret h1⟩
  rw [env0, b_law]
  refine RtB.set (r_newL evs_nil dats_nil) ?_
  dsimp only [List.set, List.nil_append, List.length_nil]
  obtain ⟨own, t1, so, hk, ht1, cs⟩ := set_c h6 k6 2 9 (by decide) (by decide) [] [] (by simp)
  have ht1 : t1.length ≤ 11 := by simpa using ht1
  refine RtB.set (v := .dat (sd 2 own)) (r_call (r_evs (ev_var rfl) (r_evs (ev_var rfl) (r_evs ev_lit (r_evs ev_lit evs_nil)))) cs) ?_
  dsimp only [List.set]
  refine RtB.set (ev_var rfl) ?_
  dsimp only [List.set]
  obtain ⟨d, t2, hd, ht2, cd⟩ := draw_c h2 k2 3 (by decide) t1 [] (by omega)
  let E : List Nat → Option EV → Option EV → Option EV → Env := fun hs o4 o10 o11 => [some (.dat (script L)), some (.loc 0), some (.dat (sd 2 own)), some (.dat (sd 2 hs)), o4, none, none, none, none, none, o10, o11, none]
  have m01 := mv_exc (n := 2) (i := 0) (j := 1) (by decide) (by decide) (by decide) (by decide)
  have m10 := mv_exc (n := 2) (i := 1) (j := 0) (by decide) (by decide) (by decide) (by decide)
  refine RtB.cons (NxS.loop (σ := Unit) (enc := fun (j : Nat) => .int (j : Nat)) (xs := List.range (3 + d)) (src := none) (fun k _ env s => ∃ hs town o4 o10 o11, Good own hs ∧ town.length ≤ 100 + 3 * k ∧ s = [.lst town] ∧ env = E hs o4 o10 o11) (fun u _ => u) () (st1 := [.lst t2])
    (r_range (n := 3 + d) ((r_bin ev_lit (r_call (r_evs (ev_var rfl) (r_evs (ev_var rfl) (r_evs ev_lit evs_nil))) cd) rd_dat rd_dat (bi_add _ _)).trans (by rw [Int.natCast_add]; rfl)) (by omega)) (fun _ _ _ _ _ => rfl) ⟨own, t2, none, none, none, ⟨so, rfl, rfl⟩, by omega, rfl, rfl⟩ ?_ ?_)
  · rintro k _ x env s hk hx ⟨hs, town, o4, o10, o11, hg, htn, rfl, rfl⟩
    rw [List.length_range] at hk
    refine ⟨E hs (some (.dat (.int (x : Nat)))) o10 o11, rfl, ?_⟩
    obtain ⟨v, t3, hv, ht3, cv⟩ := draw_c h2 k2 4 (by decide) town [] (by omega)
    refine NxB.set (r_call (r_evs (ev_var rfl) (r_evs (ev_var rfl) (r_evs ev_lit evs_nil))) cv) ?_
    dsimp only [List.set, E]
    have hv4 : v = 0 ∨ v = 1 ∨ v = 2 ∨ v = 3 := by omega
    rcases hv4 with rfl | rfl | rfl | rfl
    · obtain ⟨p, t4, hp, ht4, cp⟩ := pick_c h4 k4 (pd 2) (List.range (3 ^ 2)) (by decide) t3 [] (by omega)
      have hp9 : p < 3 ^ 2 := List.mem_range.mp hp
      have cm : ∀ st, callI G i8 [.dat (.int 2), .dat (sd 2 hs), .dat (pd 2 p)] st = .ok (.dat (sd 2 (moveL (fun k => addP 2 k p) hs))) st := fun st => callI_of h8 k8.1.symm (k8.2.1 2 hs p st hg.1 hp9)
      refine NxB.cons (NxS.ifT (r_cmp (ev_var rfl) ev_lit (cv_dat (ci_int _ _))) (NxB.set (r_call (r_evs ev_lit (r_evs (ev_var rfl) (r_evs (r_call (r_evs (ev_var rfl) (r_evs (ev_var rfl) (r_evs (r_call (r_evs ev_lit evs_nil) (cg _)) evs_nil))) cp) evs_nil))) (cm _)) (NxB.nil (NxB.nil ⟨_, t4, _, _, _, good_step hg (mv_add 2 p) ?_, by omega, rfl, rfl⟩))))
      unfold mvsL
      exact List.mem_append_left _ (List.mem_map.mpr ⟨p, hp, rfl⟩)
    · have cm : ∀ st, callI G i10 [.dat (.int 2), .dat (sd 2 hs)] st = .ok (.dat (sd 2 (moveL (fun k => dblP 2 k) hs))) st := fun st => k10.c h10 (n := 2) hg.1 st
      refine NxB.cons (NxS.ifF (r_cmp (ev_var rfl) ev_lit (cv_dat (ci_int _ _))) (NxB.cons (NxS.ifT (r_cmp (ev_var rfl) ev_lit (cv_dat (ci_int _ _))) (NxB.set (r_call (r_evs ev_lit (r_evs (ev_var rfl) evs_nil)) (cm _)) (NxB.nil (NxB.nil (NxB.nil ⟨_, t3, _, _, _, good_step hg (mv_dbl 2) ?_, by omega, rfl, rfl⟩)))))))
      unfold mvsL
      exact List.mem_append_right _ List.mem_cons_self
    · obtain ⟨i, t4, hi, ht4, ci_⟩ := draw_c h2 k2 2 (by decide) t3 [] (by omega)
      have hi2 : i = 0 ∨ i = 1 := by omega
      rcases hi2 with rfl | rfl
      · have cm : ∀ st, callI G i11 [.dat (.int 2), .dat (sd 2 hs), .dat (.int ((0 : Nat) : Int)), .dat (.int (1 - ((0 : Nat) : Int)))] st = .ok (.dat (sd 2 (moveL (excP 2 0 1) hs))) st := fun st => callI_of h11 k11.1.symm (k11.2.1 2 hs 0 1 st hg.1 (by decide) (by decide) (by decide))
        refine NxB.cons (NxS.ifF (r_cmp (ev_var rfl) ev_lit (cv_dat (ci_int _ _))) (NxB.cons (NxS.ifF (r_cmp (ev_var rfl) ev_lit (cv_dat (ci_int _ _))) (NxB.set (r_call (r_evs (ev_var rfl) (r_evs (ev_var rfl) (r_evs ev_lit evs_nil))) ci_) (NxB.set (r_callIx (r_bin (ev_var rfl) ev_lit rd_dat rd_dat (bi_sub _ _)) rfl (r_evs ev_lit (r_evs (ev_var rfl) (r_evs (ev_var rfl) (r_evs (r_bin ev_lit (ev_var rfl) rd_dat rd_dat (bi_sub _ _)) evs_nil)))) (cm _)) (NxB.nil (NxB.nil (NxB.nil ⟨_, t4, _, _, _, good_step hg m01.1 ?_, by omega, rfl, rfl⟩))))))))
        unfold mvsL
        exact List.mem_append_right _ (by simp)
      · have cm : ∀ st, callI G i11 [.dat (.int 2), .dat (sd 2 hs), .dat (.int ((1 : Nat) : Int)), .dat (.int (1 - ((1 : Nat) : Int)))] st = .ok (.dat (sd 2 (moveL (excP 2 1 0) hs))) st := fun st => callI_of h11 k11.1.symm (k11.2.1 2 hs 1 0 st hg.1 (by decide) (by decide) (by decide))
        refine NxB.cons (NxS.ifF (r_cmp (ev_var rfl) ev_lit (cv_dat (ci_int _ _))) (NxB.cons (NxS.ifF (r_cmp (ev_var rfl) ev_lit (cv_dat (ci_int _ _))) (NxB.set (r_call (r_evs (ev_var rfl) (r_evs (ev_var rfl) (r_evs ev_lit evs_nil))) ci_) (NxB.set (r_callIx (r_bin (ev_var rfl) ev_lit rd_dat rd_dat (bi_sub _ _)) rfl (r_evs ev_lit (r_evs (ev_var rfl) (r_evs (ev_var rfl) (r_evs (r_bin ev_lit (ev_var rfl) rd_dat rd_dat (bi_sub _ _)) evs_nil)))) (cm _)) (NxB.nil (NxB.nil (NxB.nil ⟨_, t4, _, _, _, good_step hg m10.1 ?_, by omega, rfl, rfl⟩))))))))
        unfold mvsL
        exact List.mem_append_right _ (by simp)
    · obtain ⟨i, t4, hi, ht4, ci_⟩ := draw_c h2 k2 2 (by decide) t3 [] (by omega)
      have hi2 : i = 0 ∨ i = 1 := by omega
      rcases hi2 with rfl | rfl
      · have cm : ∀ st, callI G i9 [.dat (.int 2), .dat (sd 2 hs), .dat (.int ((0 : Nat) : Int)), .dat (.int (1 - ((0 : Nat) : Int)))] st = .ok (.dat (sd 2 (moveL (posP 2 0 1) hs))) st := fun st => callI_of h9 k9.1.symm (k9.2.1 2 hs 0 1 st hg.1 (by decide) (by decide) (by decide))
        refine NxB.cons (NxS.ifF (r_cmp (ev_var rfl) ev_lit (cv_dat (ci_int _ _))) (NxB.cons (NxS.ifF (r_cmp (ev_var rfl) ev_lit (cv_dat (ci_int _ _))) (NxB.set (r_call (r_evs (ev_var rfl) (r_evs (ev_var rfl) (r_evs ev_lit evs_nil))) ci_) (NxB.set (r_callIx (r_bin (ev_var rfl) ev_lit rd_dat rd_dat (bi_sub _ _)) rfl (r_evs ev_lit (r_evs (ev_var rfl) (r_evs (ev_var rfl) (r_evs (r_bin ev_lit (ev_var rfl) rd_dat rd_dat (bi_sub _ _)) evs_nil)))) (cm _)) (NxB.nil (NxB.nil (NxB.nil ⟨_, t4, _, _, _, good_step hg m01.2 ?_, by omega, rfl, rfl⟩))))))))
        unfold mvsL
        exact List.mem_append_right _ (by simp)
      · have cm : ∀ st, callI G i9 [.dat (.int 2), .dat (sd 2 hs), .dat (.int ((1 : Nat) : Int)), .dat (.int (1 - ((1 : Nat) : Int)))] st = .ok (.dat (sd 2 (moveL (posP 2 1 0) hs))) st := fun st => callI_of h9 k9.1.symm (k9.2.1 2 hs 1 0 st hg.1 (by decide) (by decide) (by decide))
        refine NxB.cons (NxS.ifF (r_cmp (ev_var rfl) ev_lit (cv_dat (ci_int _ _))) (NxB.cons (NxS.ifF (r_cmp (ev_var rfl) ev_lit (cv_dat (ci_int _ _))) (NxB.set (r_call (r_evs (ev_var rfl) (r_evs (ev_var rfl) (r_evs ev_lit evs_nil))) ci_) (NxB.set (r_callIx (r_bin (ev_var rfl) ev_lit rd_dat rd_dat (bi_sub _ _)) rfl (r_evs ev_lit (r_evs (ev_var rfl) (r_evs (ev_var rfl) (r_evs (r_bin ev_lit (ev_var rfl) rd_dat rd_dat (bi_sub _ _)) evs_nil)))) (cm _)) (NxB.nil (NxB.nil (NxB.nil ⟨_, t4, _, _, _, good_step hg m10.2 ?_, by omega, rfl, rfl⟩))))))))
        unfold mvsL
        exact List.mem_append_right _ (by simp)
  rintro e s ⟨hs, town, o4, o10, o11, hg, htn, rfl, rfl⟩
  rw [List.length_range] at htn
  have ko := rep_ok own (set_sub9 so)
  have kh := rep_ok hs (set_sub9 hg.1)
  have ekk := good_kind hg
  rw [ekk] at kh
  have sl : SetOk 2 (kindT own) := rep_set (kind_rep so)
  have enl := mvs_nl own (set_sub9 so)
  rw [Bool.and_eq_true] at enl
  have enl := eq_of_beq enl.1
  have itS : ∀ js, IT (sd 2 js) := fun js => IT.of (sd_itr _ _) (by decide)
  refine RtB.set (r_call (r_evs (ev_var rfl) evs_nil) (aK own _ so)) ?_
  dsimp only [List.set, E]
  have gtm : cmpI .Gt (sd 2 (kindT own)) (sd 2 (minS own [hs])) = some false := by
    have hm : minS own [hs] = own ∨ minS own [hs] = hs := by
      have := minS_mem [hs] own
      simpa using this
    rcases hm with e | e <;> rw [e]
    · rw [gt_sds ko.2.1.symm sl.1.2.1 so.1.2.1, ko.1.2]
    · rw [gt_sds (kh.2.1.symm) sl.1.2.1 hg.1.1.2.1, kh.1.2]
  have elen : ∀ (i : Nat) (js : List Nat) (env : Env) (st : Store), env[i]? = some (some (.dat (sd 2 js))) → ev G (.blt .len (.cons (.var i) .nil)) env st = .ok (.dat (.int ((js.length : Nat) : Int))) st := fun i js env st h => r_blt (r_evs (ev_var h) evs_nil) rfl (by show some (PyData.int ((pds 2 js).length : Nat)) = _; rw [pds_len])
  refine RtB.pass (or_ok (r_cmp (r_call (r_evs (ev_var rfl) evs_nil) (aK hs _ hg.1)) (ev_var rfl) (cv_dat (ci_ne (ci_eq (itS _) (itS _))))) fun _ => or_ok (r_cmp (r_call (r_evs (ev_var rfl) evs_nil) (aK _ _ sl)) (ev_var rfl) (cv_dat (ci_ne (ci_eq (itS _) (itS _))))) fun _ => or_ok (r_cmp (ev_var rfl) (r_blt (r_evs (ev_var rfl) (r_evs (ev_var rfl) evs_nil)) rfl (min_two hg.2.1 so.1.2.1 hg.1.1.2.1)) (cv_dat gtm)) fun _ => one_is.trans (r_cmp (elen 5 (kindT own) _ _ rfl) (elen 2 own _ _ rfl) (cv_dat (ci_ne (ci_int _ _))))) ?_ ?_
  · refine or_no (ne_no (by rw [ekk])) (or_no (ne_no (by rw [ko.2.2])) (or_no rfl ?_))
    rw [ko.2.1]
    simp
  have elin : ∀ js, bltD .len [linesD 2 js] = some (.int (((linesL 2 js).length : Nat) : Int)) := fun js => by
    show some (PyData.int (((linesL 2 js).map (tri 2)).length : Nat)) = _
    rw [List.length_map]
  refine RtB.pass (or_ok (r_cmp (r_call (r_evs (ev_var rfl) (r_evs (ev_var rfl) evs_nil)) (aT own hs _ so hg.1)) ev_lit (cv_dat (ci_isnot (ci_isB _ _)))) fun _ => one_is.trans (r_cmp (r_blt (r_evs (r_call (r_evs ev_lit (r_evs (ev_var rfl) evs_nil)) (cL _ _ sl)) evs_nil) rfl (elin _)) (r_blt (r_evs (r_call (r_evs ev_lit (r_evs (ev_var rfl) evs_nil)) (cL _ _ so)) evs_nil) rfl (elin _)) (cv_dat (ci_ne (ci_int _ _))))) ?_ ?_
  · rw [ekk, ← nl_is sl, ← nl_is so, enl]
    simp
  obtain ⟨oth, t5, st, hk5, ht5, cs5⟩ := set_c h6 k6 2 9 (by decide) (by decide) town [] (by omega)
  refine RtB.set (v := .dat (sd 2 oth)) (r_call (r_evs (ev_var rfl) (r_evs (ev_var rfl) (r_evs ev_lit (r_evs ev_lit evs_nil)))) cs5) ?_
  dsimp only [List.set]
  have skt : SetOk 2 (kindT oth) := rep_set (kind_rep st)
  refine RtB.pass (not_ok (r_call (r_evs (r_call (r_evs (ev_var rfl) (r_evs (ev_var rfl) evs_nil)) (aT own oth _ so st)) (r_evs (r_cmp (r_call (r_evs (ev_var rfl) evs_nil) (aK oth _ st)) (ev_var rfl) (cv_dat (ci_eq (itS _) (itS _)))) evs_nil)) (callI_of h5 k5.1.symm (k5.2 _ _ _)))) ?_ ?_
  · rw [same_sds skt.1.2.1 sl.1.2.1]
    simp
  refine RtB.pass (and_ok (r_call (r_evs ev_lit (r_evs (ev_var rfl) evs_nil)) (cF own _ so)) fun _ => and_ok (r_call (r_evs ev_lit (r_evs (ev_var rfl) evs_nil)) (cF oth _ st)) fun _ => one_is.trans (r_cmp (r_call (r_evs (ev_var rfl) (r_evs (ev_var rfl) evs_nil)) (aT own oth _ so st)) (r_cmp (elen 2 own _ _ rfl) (elen 6 oth _ _ rfl) (cv_dat (ci_int _ _))) (cv_dat (ci_ne (ci_bool _ _))))) ?_ ?_
  · cases f1 : (linesL 2 own).isEmpty with
    | false => rfl
    | true =>
      cases f2 : (linesL 2 oth).isEmpty with
      | false => rfl
      | true =>
        rw [List.isEmpty_iff] at f1 f2
        have n1 : nlT own = 0 := by rw [nl_is so, f1]; rfl
        have n2 : nlT oth = 0 := by rw [nl_is st, f2]; rfl
        have kt := rep_ok oth (set_sub9 st)
        have : decide (kindT own = kindT oth) = decide ((own.length : Int) = (oth.length : Int)) := by
          rw [Bool.eq_iff_iff, decide_eq_true_eq, decide_eq_true_eq]
          constructor
          · intro e
            have e1 := ko.2.1
            have e2 := kt.2.1
            rw [e] at e1
            omega
          · intro e
            have e : own.length = oth.length := by omega
            unfold kindT
            rw [n1, n2, e]
        rw [this]
        simp
  have grest : ∀ (i : Nat) (js : List Nat) (env : Env) (sto : Store) (envF : Nat → Env), SetOk 2 js → (∀ x, bindT (.one 12) (wipeE env [12]) (pd 2 x) = some (envF x)) → (∀ x, (envF x)[12]? = some (some (.dat (pd 2 x)))) → (∀ x, (envF x)[i]? = some (some (.dat (sd 2 js)))) → ev G (.blt .tuple (.cons (.comp [12] (.one 12) (.seq (.call i3 (.cons (.lit (.int 2)) .nil))) (.some (.cmp .NotIn (.var 12) (.var i))) (.var 12)) .nil)) env sto = .ok (.dat (sd 2 (outL 2 js))) sto := fun i js env sto envF hj hb h12 hi => by
    have := r_fil (G := G) (own := [12]) (tg := .one 12) (it := .seq (.call i3 (.cons (.lit (.int 2)) .nil))) (c := .cmp .NotIn (.var 12) (.var i)) (e := .var 12) (env := env) (st := sto) (st1 := sto) (xs := List.range (3 ^ 2)) (enc := pd 2) (out := pd 2) (p := fun x => !hasS (pds 2 js) (pd 2 x)) (src := none) (envF := envF)
      (r_seq (r_call (r_evs ev_lit evs_nil) (cg _)) rfl) rfl (by decide) (fun x _ => hb x) (fun x hx acc => r_cmp (ev_var (h12 x)) (ev_var (hi x)) (cv_dat (ci_nin (ci_inT (IT.of (pd_itr _ _) (by decide)) (ITs.map (fun _ _ => pd_itr _ _) (by decide)))))) (fun x _ _ _ => ev_var (h12 x))
    rw [out_eq hj.1.2.1] at this
    exact r_blt (r_evs this evs_nil) rfl rfl
  refine RtB.set (grest 2 own _ _ _ so (fun _ => rfl) (fun _ => rfl) (fun _ => rfl)) ?_
  dsimp only [List.set]
  refine RtB.set (grest 3 hs _ _ _ hg.1 (fun _ => rfl) (fun _ => rfl) (fun _ => rfl)) ?_
  dsimp only [List.set]
  have s1 := out_set own so.1.1
  have s2 := out_set hs so.1.1
  refine RtB.pass (r_cmp (r_call (r_evs (ev_var rfl) (r_evs (ev_var rfl) evs_nil)) (aT _ _ _ s1 s2)) ev_lit (cv_dat (ci_isnot (ci_isB _ _)))) (by rw [out_kind so hg]; simp) ?_
  let E9 : Option EV → Env := fun o9 => [some (.dat (script L)), some (.loc 0), some (.dat (sd 2 own)), some (.dat (sd 2 hs)), o4, some (.dat (sd 2 (kindT own))), some (.dat (sd 2 oth)), some (.dat (sd 2 (outL 2 own))), some (.dat (sd 2 (outL 2 hs))), o9, o10, o11, none]
  refine RtB.cons (NxS.loop (σ := Unit) (enc := fun d => d) (xs := offs own) (src := none) (fun k ss env s => s = [.lst t5] ∧ ∃ o9, env = E9 o9) (fun s _ => s) () (st1 := [.lst t5])
    (r_seq (v := .dat (.list (offs own))) (r_lst (r_evs ev_lit (r_evs (r_lst (r_evs (ev_var rfl) evs_nil) rfl) (r_evs (r_tup (r_evs (r_tup (r_evs ev_lit (r_evs ev_lit evs_nil)) rfl) (r_evs (r_tup (r_evs ev_lit (r_evs ev_lit evs_nil)) rfl) evs_nil)) rfl) (r_evs (r_tup (r_evs (r_tup (r_evs ev_lit evs_nil) rfl) evs_nil) rfl) (r_evs (r_tup (r_evs (r_tup (r_evs ev_lit (r_evs ev_lit (r_evs ev_lit evs_nil))) rfl) evs_nil) rfl) (r_evs (r_tup (r_evs (r_tup (r_evs ev_lit (r_evs ev_lit evs_nil)) rfl) evs_nil) rfl) (r_evs (r_tup (r_evs (r_tup (r_evs ev_lit (r_evs ev_lit evs_nil)) rfl) evs_nil) rfl) (r_evs ev_lit evs_nil)))))))) rfl) rfl) (fun _ _ _ _ _ => rfl) ⟨rfl, _, rfl⟩ ?_ ?_)
  · rintro k ss x env s hk hx ⟨rfl, o9, rfl⟩
    refine ⟨E9 (some (.dat x)), rfl, ?_⟩
    have hx := offs_no own x hx
    exact NxB.pass (r_cmp (r_lst (r_evs (r_call (r_evs (ev_var rfl) evs_nil) (aX x _ hx)) (r_evs (r_call (r_evs (ev_var rfl) (r_evs ev_lit evs_nil)) (aY x _ _ hx)) (r_evs (r_call (r_evs (ev_var rfl) (r_evs (ev_var rfl) evs_nil)) (aZ own x _ so hx)) evs_nil))) rfl)
      (r_bin (r_lst (r_evs (r_tup (r_evs ev_lit (r_evs ev_lit evs_nil)) rfl) evs_nil) rfl) ev_lit rd_dat rd_dat (bi (r := some (.list (List.replicate 3 (raised 2)))) rfl)) (cv_dat (ci_ne (rep_self 2 3)))) rfl (NxB.nil ⟨rfl, _, rfl⟩)
  rintro e s ⟨rfl, o9, rfl⟩
  exact RtB.ret ev_lit rfl

end
section
open PySem PySem.Spec PyProof.Rows L2
def top (i : Nat) : Stmt := PySem.Challenge.pw_linefree_k06_whole_kinds.main.body.getD i (.Pass ⟨0, 0, 0, 0⟩)
def exs : List Str := ["InvalidSize", "InvalidPlace", "InvalidSet", "InvalidPosition", "InvalidNumber", "NoLine", "HasLine", "Laid", "NothingToUndo", "ParseError"]
def e_is_integer : Dfn := ⟨"is_integer", top 13, ["value", "low", "high"], ["value", "low", "high"], b_is_integer⟩
def e_check_size : Dfn := ⟨"check_size", top 14, ["size"], ["size"], b_check_size 0 0⟩
def e_fits : Dfn := ⟨"fits", top 15, ["size", "value", "one"], ["size", "value"], b_fits 0⟩
def e_third_of : Dfn := ⟨"third_of", top 16, ["one", "other", "first", "second"], ["one", "other"], b_third_of⟩
def e_line_list : Dfn := ⟨"line_list", top 17, ["some", "found", "at", "one", "other", "last"], ["some"], b_line_list 3⟩
def e_lies : Dfn := ⟨"lies", top 19, ["size", "value", "one", "other", "place"], ["size", "value"], b_lies 2⟩
def e_check_set : Dfn := ⟨"check_set", top 20, ["size", "some"], ["size", "some"], b_check_set 1 5 2⟩
def e_lines_in : Dfn := ⟨"lines_in", top 21, ["size", "some"], ["size", "some"], b_lines_in 6 4⟩
def e_is_free : Dfn := ⟨"is_free", top 22, ["size", "some"], ["size", "some"], b_is_free 6 4⟩
def e_added : Dfn := ⟨"added", top 24, ["some", "place", "here", "one", "other"], ["some", "place"], b_added⟩
def e_add_place : Dfn := ⟨"add_place", top 25, ["size", "some", "place"], ["size", "some", "place"], b_add_place 9 6 2 1⟩
def e_doubled : Dfn := ⟨"doubled", top 26, ["some", "here", "one"], ["some"], b_doubled⟩
def e_double : Dfn := ⟨"double", top 27, ["size", "some"], ["size", "some"], b_double 6 11⟩
def e_check_positions : Dfn := ⟨"check_positions", top 28, ["size", "i", "j"], ["size", "i", "j"], b_check_positions 0 3⟩
def e_put : Dfn := ⟨"put", top 29, ["place", "j", "value"], ["place", "j", "value"], b_put⟩
def e_exchanged : Dfn := ⟨"exchanged", top 30, ["some", "i", "j", "here"], ["some", "i", "j"], b_exchanged 14⟩
def e_exchange : Dfn := ⟨"exchange", top 31, ["size", "some", "i", "j"], ["size", "some", "i", "j"], b_exchange 13 6 15⟩
def e_position_added : Dfn := ⟨"position_added", top 32, ["some", "i", "j", "here"], ["some", "i", "j"], b_position_added 14⟩
def e_add_position : Dfn := ⟨"add_position", top 33, ["size", "some", "i", "j"], ["size", "some", "i", "j"], b_add_position 13 6 17⟩
def e_alike_to : Dfn := ⟨"alike_to", top 35, ["some", "found", "line", "here", "moved", "after"], ["some"], b_alike_to 9 11 15 17⟩
def e_check_flat : Dfn := ⟨"check_flat", top 36, ["some"], ["some"], b_check_flat 5 2⟩
def e_kind : Dfn := ⟨"kind", top 37, ["some"], ["some"], b_kind 19 20⟩
def e_are_alike : Dfn := ⟨"are_alike", top 38, ["one", "other"], ["one", "other"], b_are_alike 19 20⟩
def e__law_cell_at : Dfn := ⟨"_law_cell_at", top 40, ["_law_script", "_law_k", "_law_spare", "_law_again"], ["_law_script", "_law_k"], b__law_cell_at⟩
def e__law_mixed : Dfn := ⟨"_law_mixed", top 41, ["_law_script", "_law_k", "_law_many", "_law_spun"], ["_law_script", "_law_k", "_law_many"], b__law_mixed 23⟩
def e__law_draw : Dfn := ⟨"_law_draw", top 42, ["_law_script", "_law_town", "_law_many"], ["_law_script", "_law_town", "_law_many"], b__law_draw 24⟩
def e__law_pick : Dfn := ⟨"_law_pick", top 43, ["_law_script", "_law_town", "_law_some"], ["_law_script", "_law_town", "_law_some"], b__law_pick 25⟩
def e__law_same_truth : Dfn := ⟨"_law_same_truth", top 44, ["_law_got", "_law_due"], ["_law_got", "_law_due"], b__law_same_truth⟩
def e__law_grid : Dfn := ⟨"_law_grid", top 45, ["_law_size", "_law_made", "_law_number", "_law_power"], ["_law_size"], b__law_grid⟩
def e__law_rowed : Dfn := ⟨"_law_rowed", top 46, ["_law_one", "_law_other", "_law_last", "_law_at"], ["_law_one", "_law_other", "_law_last"], b__law_rowed⟩
def e__law_hits : Dfn := ⟨"_law_hits", top 47, ["_law_made", "_law_place", "_law_at", "_law_one", "_law_other"], ["_law_made", "_law_place"], b__law_hits 29⟩
def e__law_some_set : Dfn := ⟨"_law_some_set", top 48, ["_law_script", "_law_town", "_law_size", "_law_most", "_law_grown", "_law_again", "_law_some", "_law_made", "_law_place"], ["_law_script", "_law_town", "_law_size", "_law_most"], b__law_some_set 25 28 30 26⟩
def e__law_which : Dfn := ⟨"_law_which", top 49, ["_law_e", "_law_own"], ["_law_e"], .cons .hole .nil⟩
def e__law_ask : Dfn := ⟨"_law_ask", top 50, ["_law_some", "_law_e"], ["_law_some"], b__law_ask_k06 21⟩
def e__law_two : Dfn := ⟨"_law_two", top 51, ["_law_one", "_law_other", "_law_e"], ["_law_one", "_law_other"], b__law_two 22⟩
def e_law : Dfn := ⟨"law", top 52, ["_law_script", "_law_town", "_law_own", "_law_here", "_law_again", "_law_least", "_law_other", "_law_rest", "_law_moved", "_law_off", "_law_what", "_law_i", "_law_place"], ["_law_script"], b_law 33 25 28 26 27 31 34 10 18 12 16 8 7⟩
def ents : List Dfn := [e_is_integer, e_check_size, e_fits, e_third_of, e_line_list, e_lies, e_check_set, e_lines_in, e_is_free, e_added, e_add_place, e_doubled, e_double, e_check_positions, e_put, e_exchanged, e_exchange, e_position_added, e_add_position, e_alike_to, e_check_flat, e_kind, e_are_alike, e__law_cell_at, e__law_mixed, e__law_draw, e__law_pick, e__law_same_truth, e__law_grid, e__law_rowed, e__law_hits, e__law_some_set, e__law_which, e__law_ask, e__law_two, e_law]

def g_0 : List Fn := []
def f_is_integer : Fn := mkFn g_0 e_is_integer
def g_1 : List Fn := g_0 ++ [f_is_integer]
def f_check_size : Fn := mkFn g_1 e_check_size
def g_2 : List Fn := g_1 ++ [f_check_size]
def f_fits : Fn := mkFn g_2 e_fits
def g_3 : List Fn := g_2 ++ [f_fits]
def f_third_of : Fn := mkFn g_3 e_third_of
def g_4 : List Fn := g_3 ++ [f_third_of]
def f_line_list : Fn := mkFn g_4 e_line_list
def g_5 : List Fn := g_4 ++ [f_line_list]
def f_lies : Fn := mkFn g_5 e_lies
def g_6 : List Fn := g_5 ++ [f_lies]
def f_check_set : Fn := mkFn g_6 e_check_set
def g_7 : List Fn := g_6 ++ [f_check_set]
def f_lines_in : Fn := mkFn g_7 e_lines_in
def g_8 : List Fn := g_7 ++ [f_lines_in]
def f_is_free : Fn := mkFn g_8 e_is_free
def g_9 : List Fn := g_8 ++ [f_is_free]
def f_added : Fn := mkFn g_9 e_added
def g_10 : List Fn := g_9 ++ [f_added]
def f_add_place : Fn := mkFn g_10 e_add_place
def g_11 : List Fn := g_10 ++ [f_add_place]
def f_doubled : Fn := mkFn g_11 e_doubled
def g_12 : List Fn := g_11 ++ [f_doubled]
def f_double : Fn := mkFn g_12 e_double
def g_13 : List Fn := g_12 ++ [f_double]
def f_check_positions : Fn := mkFn g_13 e_check_positions
def g_14 : List Fn := g_13 ++ [f_check_positions]
def f_put : Fn := mkFn g_14 e_put
def g_15 : List Fn := g_14 ++ [f_put]
def f_exchanged : Fn := mkFn g_15 e_exchanged
def g_16 : List Fn := g_15 ++ [f_exchanged]
def f_exchange : Fn := mkFn g_16 e_exchange
def g_17 : List Fn := g_16 ++ [f_exchange]
def f_position_added : Fn := mkFn g_17 e_position_added
def g_18 : List Fn := g_17 ++ [f_position_added]
def f_add_position : Fn := mkFn g_18 e_add_position
def g_19 : List Fn := g_18 ++ [f_add_position]
def f_alike_to : Fn := mkFn g_19 e_alike_to
def g_20 : List Fn := g_19 ++ [f_alike_to]
def f_check_flat : Fn := mkFn g_20 e_check_flat
def g_21 : List Fn := g_20 ++ [f_check_flat]
def f_kind : Fn := mkFn g_21 e_kind
def g_22 : List Fn := g_21 ++ [f_kind]
def f_are_alike : Fn := mkFn g_22 e_are_alike
def g_23 : List Fn := g_22 ++ [f_are_alike]
def f__law_cell_at : Fn := mkFn g_23 e__law_cell_at
def g_24 : List Fn := g_23 ++ [f__law_cell_at]
def f__law_mixed : Fn := mkFn g_24 e__law_mixed
def g_25 : List Fn := g_24 ++ [f__law_mixed]
def f__law_draw : Fn := mkFn g_25 e__law_draw
def g_26 : List Fn := g_25 ++ [f__law_draw]
def f__law_pick : Fn := mkFn g_26 e__law_pick
def g_27 : List Fn := g_26 ++ [f__law_pick]
def f__law_same_truth : Fn := mkFn g_27 e__law_same_truth
def g_28 : List Fn := g_27 ++ [f__law_same_truth]
def f__law_grid : Fn := mkFn g_28 e__law_grid
def g_29 : List Fn := g_28 ++ [f__law_grid]
def f__law_rowed : Fn := mkFn g_29 e__law_rowed
def g_30 : List Fn := g_29 ++ [f__law_rowed]
def f__law_hits : Fn := mkFn g_30 e__law_hits
def g_31 : List Fn := g_30 ++ [f__law_hits]
def f__law_some_set : Fn := mkFn g_31 e__law_some_set
def g_32 : List Fn := g_31 ++ [f__law_some_set]
def f__law_which : Fn := mkFn g_32 e__law_which
def g_33 : List Fn := g_32 ++ [f__law_which]
def f__law_ask : Fn := mkFn g_33 e__law_ask
def g_34 : List Fn := g_33 ++ [f__law_ask]
def f__law_two : Fn := mkFn g_34 e__law_two
def g_35 : List Fn := g_34 ++ [f__law_two]
def f_law : Fn := mkFn g_35 e_law
def g_36 : List Fn := g_35 ++ [f_law]
theorem k_is_integer : IsInteger f_is_integer := isInteger g_0
theorem k_check_size : IsCheckSize 0 f_check_size := isCheckSize (show g_1[0]? = some f_is_integer from rfl) k_is_integer
theorem k_fits : IsFits f_fits := isFits (show g_2[0]? = some f_is_integer from rfl) k_is_integer
theorem k_third_of : IsThirdOf f_third_of := isThirdOf g_3
theorem k_line_list : IsLineList f_line_list := isLineList (show g_4[3]? = some f_third_of from rfl) k_third_of
theorem k_lies : IsLies f_lies := isLies (show g_5[2]? = some f_fits from rfl) k_fits
theorem k_check_set : Is2 0 2 (fun _ _ => .inl .none) f_check_set := isCheckSet (show g_6[1]? = some f_check_size from rfl) k_check_size (show g_6[5]? = some f_lies from rfl) k_lies
theorem k_lines_in : Is2 0 2 (fun n ks => .inl (linesD n ks)) f_lines_in := isLinesIn (show g_7[6]? = some f_check_set from rfl) k_check_set (show g_7[4]? = some f_line_list from rfl) k_line_list
theorem k_is_free : Is2 0 2 (fun n ks => .inl (.bool (linesL n ks).isEmpty)) f_is_free := isFree (show g_8[6]? = some f_check_set from rfl) k_check_set (show g_8[4]? = some f_line_list from rfl) k_line_list
theorem k_added : IsAdded f_added := isAdded g_9
theorem k_add_place : IsAddPlace 0 1 2 f_add_place := isAddPlace (show g_10[9]? = some f_added from rfl) k_added (show g_10[6]? = some f_check_set from rfl) k_check_set (show g_10[2]? = some f_fits from rfl) k_fits
theorem k_doubled : IsDoubled f_doubled := isDoubled g_11
theorem k_double : Is2 0 2 (fun n ks => .inl (sd n (sortN (ks.map fun k => dblP n k)))) f_double := isDouble (show g_12[6]? = some f_check_set from rfl) k_check_set (show g_12[11]? = some f_doubled from rfl) k_doubled
theorem k_check_positions : IsCheckPos 3 f_check_positions := isCheckPos (show g_13[0]? = some f_is_integer from rfl) k_is_integer
theorem k_put : IsPut f_put := isPut g_14
theorem k_exchanged : IsMoved excP f_exchanged := isExchanged (show g_15[14]? = some f_put from rfl) k_put
theorem k_exchange : IsMove2 0 2 3 excP f_exchange := isExchange (show g_16[15]? = some f_exchanged from rfl) k_exchanged (show g_16[6]? = some f_check_set from rfl) k_check_set (show g_16[13]? = some f_check_positions from rfl) k_check_positions
theorem k_position_added : IsMoved posP f_position_added := isPosAdded (show g_17[14]? = some f_put from rfl) k_put
theorem k_add_position : IsMove2 0 2 3 posP f_add_position := isAddPosition (show g_18[17]? = some f_position_added from rfl) k_position_added (show g_18[6]? = some f_check_set from rfl) k_check_set (show g_18[13]? = some f_check_positions from rfl) k_check_positions
theorem k_alike_to : IsAlikeTo f_alike_to := isAlikeTo (show g_19[9]? = some f_added from rfl) k_added (show g_19[11]? = some f_doubled from rfl) k_doubled (show g_19[15]? = some f_exchanged from rfl) k_exchanged (show g_19[17]? = some f_position_added from rfl) k_position_added
theorem k_check_flat : IsFlat 2 f_check_flat := isCheckFlat (show g_20[5]? = some f_lies from rfl) k_lies
theorem k_kind : IsKind 2 f_kind := isKind (show g_21[19]? = some f_alike_to from rfl) k_alike_to (show g_21[20]? = some f_check_flat from rfl) k_check_flat
theorem k_are_alike : IsAreAlike 2 f_are_alike := isAreAlike (show g_22[19]? = some f_alike_to from rfl) k_alike_to (show g_22[20]? = some f_check_flat from rfl) k_check_flat
theorem k__law_cell_at (L : List Int) (hL : L.length ≤ 63) : IsCell L f__law_cell_at := isCell g_23 hL
theorem k__law_mixed (L : List Int) (hL : L.length ≤ 63) : IsMixed L f__law_mixed := isMixed (show g_24[23]? = some f__law_cell_at from rfl) (k__law_cell_at L hL)
theorem k__law_draw (L : List Int) (hL : L.length ≤ 63) : IsDraw L f__law_draw := isDraw (show g_25[24]? = some f__law_mixed from rfl) (k__law_mixed L hL)
theorem k__law_pick (L : List Int) (hL : L.length ≤ 63) : IsPick L f__law_pick := isPick (show g_26[25]? = some f__law_draw from rfl) (k__law_draw L hL)
theorem k__law_same_truth : IsSameTruth f__law_same_truth := isSameTruth g_27
theorem k__law_grid : IsGrid f__law_grid := isGrid g_28
theorem k__law_rowed : IsRowed f__law_rowed := isRowed g_29
theorem k__law_hits : IsHits f__law_hits := isHits (show g_30[29]? = some f__law_rowed from rfl) k__law_rowed
theorem k__law_some_set (L : List Int) (hL : L.length ≤ 63) : IsSomeSet L f__law_some_set := isSomeSet (show g_31[25]? = some f__law_draw from rfl) (k__law_draw L hL) (show g_31[28]? = some f__law_grid from rfl) k__law_grid (show g_31[30]? = some f__law_hits from rfl) k__law_hits (show g_31[26]? = some f__law_pick from rfl) (k__law_pick L hL)
-- no fact of _law_which
theorem k__law_ask : IsAskKind f__law_ask := isAskKind (show g_33[21]? = some f_kind from rfl) k_kind
theorem k__law_two : IsTwo f__law_two := isTwo (show g_34[22]? = some f_are_alike from rfl) k_are_alike
theorem law_fn : lawFn ents = f_law := rfl
theorem holds (ns : List Int) (h : ns.length ≤ 63) : ∃ st, (lawFn ents).den [.dat (.list (ns.map PyData.int))] [] = .ok (.dat (.bool true)) st := by
  rw [law_fn]
  have e : f_law.den = runDef g_35 13 (b_law 33 25 28 26 27 31 34 10 18 12 16 8 7) := rfl
  obtain ⟨st, hq⟩ := law_run (L := ns) (G := g_35) (show g_35[33]? = some f__law_ask from rfl) k__law_ask (show g_35[25]? = some f__law_draw from rfl) (k__law_draw ns h) (show g_35[28]? = some f__law_grid from rfl) k__law_grid (show g_35[26]? = some f__law_pick from rfl) (k__law_pick ns h) (show g_35[27]? = some f__law_same_truth from rfl) k__law_same_truth (show g_35[31]? = some f__law_some_set from rfl) (k__law_some_set ns h) (show g_35[34]? = some f__law_two from rfl) k__law_two (show g_35[10]? = some f_add_place from rfl) k_add_place (show g_35[18]? = some f_add_position from rfl) k_add_position (show g_35[12]? = some f_double from rfl) k_double (show g_35[16]? = some f_exchange from rfl) k_exchange (show g_35[8]? = some f_is_free from rfl) k_is_free (show g_35[7]? = some f_lines_in from rfl) k_lines_in
  exact ⟨st, (congrFun (congrFun e [.dat (.list (ns.map PyData.int))]) []).trans hq⟩

theorem bd_is_integer : Bnd e_is_integer := fun _ _ _ _ _ _ us hl => match us, hl with | [_, _, _], _ => rfl
theorem bd_check_size : Bnd e_check_size := fun _ _ _ _ _ _ us hl => match us, hl with | [_], _ => rfl
theorem bd_fits : Bnd e_fits := fun _ _ _ _ _ _ us hl => match us, hl with | [_, _], _ => rfl
theorem bd_third_of : Bnd e_third_of := fun _ _ _ _ _ _ us hl => match us, hl with | [_, _], _ => rfl
theorem bd_line_list : Bnd e_line_list := fun _ _ _ _ _ _ us hl => match us, hl with | [_], _ => rfl
theorem bd_lies : Bnd e_lies := fun _ _ _ _ _ _ us hl => match us, hl with | [_, _], _ => rfl
theorem bd_check_set : Bnd e_check_set := fun _ _ _ _ _ _ us hl => match us, hl with | [_, _], _ => rfl
theorem bd_lines_in : Bnd e_lines_in := fun _ _ _ _ _ _ us hl => match us, hl with | [_, _], _ => rfl
theorem bd_is_free : Bnd e_is_free := fun _ _ _ _ _ _ us hl => match us, hl with | [_, _], _ => rfl
theorem bd_added : Bnd e_added := fun _ _ _ _ _ _ us hl => match us, hl with | [_, _], _ => rfl
theorem bd_add_place : Bnd e_add_place := fun _ _ _ _ _ _ us hl => match us, hl with | [_, _, _], _ => rfl
theorem bd_doubled : Bnd e_doubled := fun _ _ _ _ _ _ us hl => match us, hl with | [_], _ => rfl
theorem bd_double : Bnd e_double := fun _ _ _ _ _ _ us hl => match us, hl with | [_, _], _ => rfl
theorem bd_check_positions : Bnd e_check_positions := fun _ _ _ _ _ _ us hl => match us, hl with | [_, _, _], _ => rfl
theorem bd_put : Bnd e_put := fun _ _ _ _ _ _ us hl => match us, hl with | [_, _, _], _ => rfl
theorem bd_exchanged : Bnd e_exchanged := fun _ _ _ _ _ _ us hl => match us, hl with | [_, _, _], _ => rfl
theorem bd_exchange : Bnd e_exchange := fun _ _ _ _ _ _ us hl => match us, hl with | [_, _, _, _], _ => rfl
theorem bd_position_added : Bnd e_position_added := fun _ _ _ _ _ _ us hl => match us, hl with | [_, _, _], _ => rfl
theorem bd_add_position : Bnd e_add_position := fun _ _ _ _ _ _ us hl => match us, hl with | [_, _, _, _], _ => rfl
theorem bd_alike_to : Bnd e_alike_to := fun _ _ _ _ _ _ us hl => match us, hl with | [_], _ => rfl
theorem bd_check_flat : Bnd e_check_flat := fun _ _ _ _ _ _ us hl => match us, hl with | [_], _ => rfl
theorem bd_kind : Bnd e_kind := fun _ _ _ _ _ _ us hl => match us, hl with | [_], _ => rfl
theorem bd_are_alike : Bnd e_are_alike := fun _ _ _ _ _ _ us hl => match us, hl with | [_, _], _ => rfl
theorem bd__law_cell_at : Bnd e__law_cell_at := fun _ _ _ _ _ _ us hl => match us, hl with | [_, _], _ => rfl
theorem bd__law_mixed : Bnd e__law_mixed := fun _ _ _ _ _ _ us hl => match us, hl with | [_, _, _], _ => rfl
theorem bd__law_draw : Bnd e__law_draw := fun _ _ _ _ _ _ us hl => match us, hl with | [_, _, _], _ => rfl
theorem bd__law_pick : Bnd e__law_pick := fun _ _ _ _ _ _ us hl => match us, hl with | [_, _, _], _ => rfl
theorem bd__law_same_truth : Bnd e__law_same_truth := fun _ _ _ _ _ _ us hl => match us, hl with | [_, _], _ => rfl
theorem bd__law_grid : Bnd e__law_grid := fun _ _ _ _ _ _ us hl => match us, hl with | [_], _ => rfl
theorem bd__law_rowed : Bnd e__law_rowed := fun _ _ _ _ _ _ us hl => match us, hl with | [_, _, _], _ => rfl
theorem bd__law_hits : Bnd e__law_hits := fun _ _ _ _ _ _ us hl => match us, hl with | [_, _], _ => rfl
theorem bd__law_some_set : Bnd e__law_some_set := fun _ _ _ _ _ _ us hl => match us, hl with | [_, _, _, _], _ => rfl
theorem bd__law_which : Bnd e__law_which := fun _ _ _ _ _ _ us hl => match us, hl with | [_], _ => rfl
theorem bd__law_ask : Bnd e__law_ask := fun _ _ _ _ _ _ us hl => match us, hl with | [_], _ => rfl
theorem bd__law_two : Bnd e__law_two := fun _ _ _ _ _ _ us hl => match us, hl with | [_, _], _ => rfl
theorem bd_law : Bnd e_law := fun _ _ _ _ _ _ us hl => match us, hl with | [_], _ => rfl
theorem all_bd : AllB ents := (.cons bd_is_integer (.cons bd_check_size (.cons bd_fits (.cons bd_third_of (.cons bd_line_list (.cons bd_lies (.cons bd_check_set (.cons bd_lines_in (.cons bd_is_free (.cons bd_added (.cons bd_add_place (.cons bd_doubled (.cons bd_double (.cons bd_check_positions (.cons bd_put (.cons bd_exchanged (.cons bd_exchange (.cons bd_position_added (.cons bd_add_position (.cons bd_alike_to (.cons bd_check_flat (.cons bd_kind (.cons bd_are_alike (.cons bd__law_cell_at (.cons bd__law_mixed (.cons bd__law_draw (.cons bd__law_pick (.cons bd__law_same_truth (.cons bd__law_grid (.cons bd__law_rowed (.cons bd__law_hits (.cons bd__law_some_set (.cons bd__law_which (.cons bd__law_ask (.cons bd__law_two (.cons bd_law .nil))))))))))))))))))))))))))))))))))))
theorem ck_is_integer : entOk ((ents.take 0).map (·.name)) exs e_is_integer = true := by decide +kernel
theorem ck_check_size : entOk ((ents.take 1).map (·.name)) exs e_check_size = true := by decide +kernel
theorem ck_fits : entOk ((ents.take 2).map (·.name)) exs e_fits = true := by decide +kernel
theorem ck_third_of : entOk ((ents.take 3).map (·.name)) exs e_third_of = true := by decide +kernel
theorem ck_line_list : entOk ((ents.take 4).map (·.name)) exs e_line_list = true := by decide +kernel
theorem ck_lies : entOk ((ents.take 5).map (·.name)) exs e_lies = true := by decide +kernel
theorem ck_check_set : entOk ((ents.take 6).map (·.name)) exs e_check_set = true := by decide +kernel
theorem ck_lines_in : entOk ((ents.take 7).map (·.name)) exs e_lines_in = true := by decide +kernel
theorem ck_is_free : entOk ((ents.take 8).map (·.name)) exs e_is_free = true := by decide +kernel
theorem ck_added : entOk ((ents.take 9).map (·.name)) exs e_added = true := by decide +kernel
theorem ck_add_place : entOk ((ents.take 10).map (·.name)) exs e_add_place = true := by decide +kernel
theorem ck_doubled : entOk ((ents.take 11).map (·.name)) exs e_doubled = true := by decide +kernel
theorem ck_double : entOk ((ents.take 12).map (·.name)) exs e_double = true := by decide +kernel
theorem ck_check_positions : entOk ((ents.take 13).map (·.name)) exs e_check_positions = true := by decide +kernel
theorem ck_put : entOk ((ents.take 14).map (·.name)) exs e_put = true := by decide +kernel
theorem ck_exchanged : entOk ((ents.take 15).map (·.name)) exs e_exchanged = true := by decide +kernel
theorem ck_exchange : entOk ((ents.take 16).map (·.name)) exs e_exchange = true := by decide +kernel
theorem ck_position_added : entOk ((ents.take 17).map (·.name)) exs e_position_added = true := by decide +kernel
theorem ck_add_position : entOk ((ents.take 18).map (·.name)) exs e_add_position = true := by decide +kernel
theorem ck_alike_to : entOk ((ents.take 19).map (·.name)) exs e_alike_to = true := by decide +kernel
theorem ck_check_flat : entOk ((ents.take 20).map (·.name)) exs e_check_flat = true := by decide +kernel
theorem ck_kind : entOk ((ents.take 21).map (·.name)) exs e_kind = true := by decide +kernel
theorem ck_are_alike : entOk ((ents.take 22).map (·.name)) exs e_are_alike = true := by decide +kernel
theorem ck__law_cell_at : entOk ((ents.take 23).map (·.name)) exs e__law_cell_at = true := by decide +kernel
theorem ck__law_mixed : entOk ((ents.take 24).map (·.name)) exs e__law_mixed = true := by decide +kernel
theorem ck__law_draw : entOk ((ents.take 25).map (·.name)) exs e__law_draw = true := by decide +kernel
theorem ck__law_pick : entOk ((ents.take 26).map (·.name)) exs e__law_pick = true := by decide +kernel
theorem ck__law_same_truth : entOk ((ents.take 27).map (·.name)) exs e__law_same_truth = true := by decide +kernel
theorem ck__law_grid : entOk ((ents.take 28).map (·.name)) exs e__law_grid = true := by decide +kernel
theorem ck__law_rowed : entOk ((ents.take 29).map (·.name)) exs e__law_rowed = true := by decide +kernel
theorem ck__law_hits : entOk ((ents.take 30).map (·.name)) exs e__law_hits = true := by decide +kernel
theorem ck__law_some_set : entOk ((ents.take 31).map (·.name)) exs e__law_some_set = true := by decide +kernel
theorem ck__law_which : entOk ((ents.take 32).map (·.name)) exs e__law_which = true := by decide +kernel
theorem ck__law_ask : entOk ((ents.take 33).map (·.name)) exs e__law_ask = true := by decide +kernel
theorem ck__law_two : entOk ((ents.take 34).map (·.name)) exs e__law_two = true := by decide +kernel
theorem ck_law : entOk ((ents.take 35).map (·.name)) exs e_law = true := by decide +kernel
theorem ents_ok : entsOk exs [] ents = true := by decide +kernel
abbrev RR : PySem.W.OpenRow := PySem.W.OpenLaw.row PySem.Challenge.rw_linefree_k06_whole_kinds
abbrev hk : PySem.W.Hook := hookM 4 exs (facts ents exs) (ents.map Dfn.dd)
def ob (s : PySem.W.SharedT) : He.AlD × Bool := obsM 4 exs (facts ents exs) (ents.map Dfn.dd) (HandSHeadRun.getT s)
theorem ob_eq (s : PySem.W.SharedT) : ob s = hk.obs s.abs := obsM_eq (HandSHeadRun.getT_eq s)
def loose0 : List Str := ["LineError", "InvalidSize", "InvalidPlace", "InvalidSet", "InvalidPosition", "InvalidNumber", "NoLine", "HasLine", "Laid", "NothingToUndo", "ParseError", "is_integer", "check_size", "fits", "third_of", "line_list", "lies", "check_set", "lines_in", "is_free", "added", "add_place", "doubled", "double", "check_positions", "put", "exchanged", "exchange", "position_added", "add_position"]
def loose1 : List Str := ["alike_to", "check_flat", "kind", "are_alike", "_law_cell_at", "_law_mixed", "_law_draw", "_law_pick", "_law_same_truth", "_law_grid", "_law_rowed", "_law_hits", "_law_some_set", "_law_which", "_law_ask", "_law_two"]
def loose : List Str := loose0 ++ loose1
theorem run (w : World) : HandSHeadRun.RunEq RR (PySem.W.view RR.prog [52]) hk ob 20000 loose w := by
  intro os
  kernel_rfl
abbrev sW : Stmt := top 49
theorem scW : FnScope ["_law_e", "_law_own"] ["_law_e"] (defScope sW) := ⟨rfl, rfl, rfl, by decide +kernel, rfl, by decide +kernel, by decide +kernel⟩
theorem which_ok {P : Program} {w : World} {K : PySem.W.Frag} {mg : Str → Option Value} {base : Heap} {T : CXT} {cl : List Addr} {f : Addr} {fd : FuncData} (F : FunD K "_law_which" "_law_which" (defArgs sW) (defBody sW) (defScope sW) [] [] f fd) (k : WhK K mg cl) :
    HotFn P w K mg base T 1 f fd ["_law_e"] (spWhich cl) := by
  obtain ⟨oc, od, dV, kV, doc, pm, an, cdv, ct, osl, rfl, lk, hcd, _, _⟩ := F.ex
  refine hot_of lk hcd scW (fun p vs H Q E ⟨c, C, h, _⟩ => by rw [h]; rfl) fun A outer s H vs Q E p hot room ⟨c, C, hv, hC, z, fl, want⟩ => ?_
  subst hv
  have mem : p ∈ (L2H.cxH T P w K mg base ["_law_e", "_law_own"] "_law_which" (defScope sW) f cdv A outer s H E p).pn := List.mem_cons_self
  have E0 := k.exc c C hC
  have hc10 : c < 10 := by
    have := (List.getElem?_eq_some_iff.mp hC).1
    rw [k.few] at this
    exact this
  have l0 : cl[0]? = some (cl[0]'(by rw [k.few]; decide)) := List.getElem?_eq_getElem _
  have g0 := k.glo 0 _ l0
  have q0 := k.kit c 0 C _ hC l0
  have l1 : cl[1]? = some (cl[1]'(by rw [k.few]; decide)) := List.getElem?_eq_getElem _
  have g1 := k.glo 1 _ l1
  have q1 := k.kit c 1 C _ hC l1
  have l2 : cl[2]? = some (cl[2]'(by rw [k.few]; decide)) := List.getElem?_eq_getElem _
  have g2 := k.glo 2 _ l2
  have q2 := k.kit c 2 C _ hC l2
  have l3 : cl[3]? = some (cl[3]'(by rw [k.few]; decide)) := List.getElem?_eq_getElem _
  have g3 := k.glo 3 _ l3
  have q3 := k.kit c 3 C _ hC l3
  have l4 : cl[4]? = some (cl[4]'(by rw [k.few]; decide)) := List.getElem?_eq_getElem _
  have g4 := k.glo 4 _ l4
  have q4 := k.kit c 4 C _ hC l4
  have l5 : cl[5]? = some (cl[5]'(by rw [k.few]; decide)) := List.getElem?_eq_getElem _
  have g5 := k.glo 5 _ l5
  have q5 := k.kit c 5 C _ hC l5
  have l6 : cl[6]? = some (cl[6]'(by rw [k.few]; decide)) := List.getElem?_eq_getElem _
  have g6 := k.glo 6 _ l6
  have q6 := k.kit c 6 C _ hC l6
  have l7 : cl[7]? = some (cl[7]'(by rw [k.few]; decide)) := List.getElem?_eq_getElem _
  have g7 := k.glo 7 _ l7
  have q7 := k.kit c 7 C _ hC l7
  have l8 : cl[8]? = some (cl[8]'(by rw [k.few]; decide)) := List.getElem?_eq_getElem _
  have g8 := k.glo 8 _ l8
  have q8 := k.kit c 8 C _ hC l8
  have l9 : cl[9]? = some (cl[9]'(by rw [k.few]; decide)) := List.getElem?_eq_getElem _
  have g9 := k.glo 9 _ l9
  have q9 := k.kit c 9 C _ hC l9
  refine ⟨_, (pss_cons (ps_set (i := 1) scW.nd rfl (.inl rfl) (pe_lst (pa_cons (pe_isP (x := "InvalidSize") (b := decide (c = 0)) mem E0 z fl rfl k.isi rfl g0 q0 rfl (pv 0)) (pa_cons (pe_isP (x := "InvalidPlace") (b := decide (c = 1)) mem E0 z fl rfl k.isi rfl g1 q1 rfl (pv 0)) (pa_cons (pe_isP (x := "InvalidSet") (b := decide (c = 2)) mem E0 z fl rfl k.isi rfl g2 q2 rfl (pv 0)) pa_nil)))))
    (pss_cons (ps_expr (pe_bm PySem.F.plainAttrs_list PySem.F.slot_list_extend PySem.F.type_list_extend mt_extend (pv 1) (pa_cons (pe_lst (pa_cons (pe_isP (x := "InvalidPosition") (b := decide (c = 3)) mem E0 z fl rfl k.isi rfl g3 q3 rfl (pv 0)) (pa_cons (pe_isP (x := "InvalidNumber") (b := decide (c = 4)) mem E0 z fl rfl k.isi rfl g4 q4 rfl (pv 0)) (pa_cons (pe_isP (x := "NoLine") (b := decide (c = 5)) mem E0 z fl rfl k.isi rfl g5 q5 rfl (pv 0)) pa_nil)))) pa_nil)))
    (pss_cons (ps_expr (pe_bm PySem.F.plainAttrs_list PySem.F.slot_list_extend PySem.F.type_list_extend mt_extend (pv 1) (pa_cons (pe_lst (pa_cons (pe_isP (x := "HasLine") (b := decide (c = 6)) mem E0 z fl rfl k.isi rfl g6 q6 rfl (pv 0)) (pa_cons (pe_isP (x := "Laid") (b := decide (c = 7)) mem E0 z fl rfl k.isi rfl g7 q7 rfl (pv 0)) (pa_cons (pe_isP (x := "NothingToUndo") (b := decide (c = 8)) mem E0 z fl rfl k.isi rfl g8 q8 rfl (pv 0)) pa_nil)))) pa_nil)))
    (pss_cons (ps_expr (pe_bm PySem.F.plainAttrs_list PySem.F.slot_list_append PySem.F.type_list_append mt_append (pv 1) (pa_cons (pe_isP (x := "ParseError") (b := decide (c = 9)) mem E0 z fl rfl k.isi rfl g9 q9 rfl (pv 0)) pa_nil)))
    (pss_cons (ps_if (pw_or (pt_cmpR op_ne (pe_bm PySem.F.plainAttrs_list PySem.F.slot_list_count PySem.F.type_list_count mt_cntB (pv 1) (pa_cons pe_bl pa_nil)) pe_int (nomark _)) (pw_or1 (pt_not (pt_val (pe_isV mem E0 z fl rfl k.isi rfl k.val (pv 0)))))).pt (pss_one (ps_ret (pe_tup (pa_cons pe_str (pa_cons (pe_un un_neg pe_int) pa_nil))))) pss_nil)
    (pss_one (ps_ret (pe_tup (pa_cons pe_str (pa_cons (pe_bm PySem.F.plainAttrs_list PySem.F.slot_list_index PySem.F.type_list_index mt_index (pv 1) (pa_cons pe_bl pa_nil)) pa_nil)))))))))), ?_⟩
  have kV := k.kitV c C hC
  refine ⟨_, rfl, .ref _, .ref _, _, rfl, fun u r => r, q0, _, rfl, .ref _, .ref _, _, rfl, fun u r => r, q1, _, rfl, .ref _, .ref _, _, rfl, fun u r => r, q2, (by decide : 3 ≤ sizeLine), fun l hl => ?_⟩
  refine ⟨_, rfl, .inl ⟨rfl, _, SqL.of upd_same⟩, ?_⟩
  refine ⟨_, rfl, .ref _, .ref _, _, rfl, fun u r => r, q3, _, rfl, .ref _, .ref _, _, rfl, fun u r => r, q4, _, rfl, .ref _, .ref _, _, rfl, fun u r => r, q5, (by decide : 3 ≤ sizeLine), fun l2 hl2 => ?_⟩
  have n2 : l ≠ l2 := fun e => by rw [← e, upd_same] at hl2; cases hl2
  refine ⟨l, l2, _, _, rfl, rfl, (upd_ne n2).trans upd_same, upd_same, (by decide : 3 + 3 ≤ sizeLine), ?_⟩
  refine ⟨_, rfl, .inl ⟨rfl, _, SqL.of upd_same⟩, ?_⟩
  refine ⟨_, rfl, .ref _, .ref _, _, rfl, fun u r => r, q6, _, rfl, .ref _, .ref _, _, rfl, fun u r => r, q7, _, rfl, .ref _, .ref _, _, rfl, fun u r => r, q8, (by decide : 3 ≤ sizeLine), fun l3 hl3 => ?_⟩
  have n3 : l ≠ l3 := fun e => by rw [← e, upd_same] at hl3; cases hl3
  refine ⟨l, l3, _, _, rfl, rfl, (upd_ne n3).trans upd_same, upd_same, (by decide : 6 + 3 ≤ sizeLine), ?_⟩
  refine ⟨_, rfl, .inl ⟨rfl, _, SqL.of upd_same⟩, ?_⟩
  refine ⟨_, rfl, .ref _, .ref _, _, rfl, fun u r => r, q9, ?_⟩
  refine ⟨l, _, _, rfl, rfl, upd_same, (by decide : 9 < sizeLine), ?_⟩
  refine ⟨_, rfl, .inl ⟨rfl, _, SqL.of upd_same⟩, ?_⟩
  refine ⟨l, [decide (c = 0), decide (c = 1), decide (c = 2), decide (c = 3), decide (c = 4), decide (c = 5), decide (c = 6), decide (c = 7), decide (c = 8), decide (c = 9)], true, rfl, rfl, SqL.of upd_same, ?_⟩
  have cnt : ([decide (c = 0), decide (c = 1), decide (c = 2), decide (c = 3), decide (c = 4), decide (c = 5), decide (c = 6), decide (c = 7), decide (c = 8), decide (c = 9)] : List Bool).count true = 1 := by
    have : ∀ c, c < 10 → ([decide (c = 0), decide (c = 1), decide (c = 2), decide (c = 3), decide (c = 4), decide (c = 5), decide (c = 6), decide (c = 7), decide (c = 8), decide (c = 9)] : List Bool).count true = 1 := by decide +kernel
    exact this c hc10
  rw [cnt]
  refine ⟨rfl, _, rfl, ?_⟩
  refine (if_neg (by decide)).mpr ?_
  refine ⟨_, rfl, .ty "ValueError", .type "ValueError", _, rfl, fun u r => r, kV, _, rfl, ?_⟩
  refine (if_neg (by decide)).mpr ?_
  have tab : ∀ c, c < 10 → ([V.bl (decide (c = 0)), V.bl (decide (c = 1)), V.bl (decide (c = 2)), V.bl (decide (c = 3)), V.bl (decide (c = 4)), V.bl (decide (c = 5)), V.bl (decide (c = 6)), V.bl (decide (c = 7)), V.bl (decide (c = 8)), V.bl (decide (c = 9))] : List V)[c]? = some (.bl true) := by decide +kernel
  have tab2 : ∀ c, c < 10 → ∀ m, m < c → ([V.bl (decide (c = 0)), V.bl (decide (c = 1)), V.bl (decide (c = 2)), V.bl (decide (c = 3)), V.bl (decide (c = 4)), V.bl (decide (c = 5)), V.bl (decide (c = 6)), V.bl (decide (c = 7)), V.bl (decide (c = 8)), V.bl (decide (c = 9))] : List V)[m]? = some (.bl false) := by decide +kernel
  refine ⟨_, rfl, .inl ⟨rfl, _, SqL.of upd_same⟩, l, _, .bl true, c, .bl true, rfl, rfl, SqL.of upd_same, rfl, rfl, tab c hc10, rfl, fun m z' hm hz' => ?_, (by decide : 2 ≤ sizeLine), fun t ht => ?_⟩
  · have := (tab2 c hc10 m hm).symm.trans hz'
    cases this
    rfl
  have kp := kp_n (o := .tup [.str "raised", .int (c : Nat)]) (kp_l (kp_l (kp_n (kp_l (kp_n (kp_l (kp_0 l H)) hl2)) hl3))) ht
  refine want _ t (fun a o ha => kp a o ha fun e => ?_) ?_ upd_same
  · rw [e, hl] at ha
    cases ha
  · cases hq : H t with
    | none => rfl
    | some o =>
      have ne : t ≠ l := fun e => by rw [e, hl] at hq; cases hq
      exact absurd (ht.symm.trans (kp_l (kp_l (kp_n (kp_l (kp_n (kp_l (kp_0 l H)) hl2)) hl3)) t o hq ne)) fun h => by cases h
theorem hot_law (P : Program) (w : World) (base h : Heap) (K : PySem.W.Frag) (mg : Str → Option Value) (X : K.In h) (G : h.Ns mainGlobals mg) (c : He.SaysD (facts ents exs) (ents.map Dfn.dd) K) (xk : xOk exs K = true) : HotW P w K mg base (exs.map (He.ga K)) := by
  refine hot_from X G c xk rfl fun wk => ?_
  obtain ⟨b, m, fd, F⟩ := there_of all_bd X G c e__law_which (by unfold ents; simp)
  exact ⟨_, fd, which_ok F wk, m, F.kp, F.bindsN b⟩


end
end PD
open PySem PySem.W PySem.Calls PyProof.Rows
theorem PySem.Challenge.cw_linefree_k06_whole_kinds_holds : PySem.Challenge.rw_linefree_k06_whole_kinds.Holds := by
  w_on; o_law
  refine HandSHeadRun.head_any (r := OpenLaw.row PySem.Challenge.rw_linefree_k06_whole_kinds) (q := view (OpenLaw.row PySem.Challenge.rw_linefree_k06_whole_kinds).prog [52]) (H := PD.hk) (ob := PD.ob) (M := 20000) (loose := PD.loose) (d := HandSHeadRun.topDef (OpenLaw.row PySem.Challenge.rw_linefree_k06_whole_kinds).prog 52) (kwd := []) PD.ob_eq
    (by kernel_rfl) (fun s => by kernel_rfl) PD.run (by kernel_rfl) (by kernel_rfl) (by kernel_rfl) (by rfl) (by first | assumption | decide +kernel) (by decide +kernel) ⟨rfl, rfl, rfl, rfl, rfl, by decide +kernel⟩ ?hw ?hc
  case hw => w_witness2
  case hc => exact PD.walk (x := "_law_script") rfl (by kernel_rfl) (by kernel_rfl) PD.ents_ok PD.all_bd (by decide +kernel) (by decide +kernel) ⟨rfl, by decide, by decide⟩ (.inr fun w base h K mg X G c xk => PD.hot_law _ w base h K mg X G c xk) PD.holds

