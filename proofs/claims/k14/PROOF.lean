import PyProof.Rows.All
import Wide.All
import OpenK.AllK
import Wide.FinOn
import KE.KStateDown
import KE.SortData
import KE.DataMinMax
import HandS.ForMost
import HandS.ForExc
import HandS.Defaults
import HandS.Deep
import HandS.IsInst
import HandS.Conv
import HandS.TupAny
import HandS.TupLe
import HandS.TupMul
import HandS.TupLen
import HandS.Style
import HandS.Wide
import HandS.Zip
import HandS.Strs
import HandS.TryOnly
import HandS.ExcCtx
import HandS.Small
import HandS.SetFor
import HandS.Head0
import HandS.Head1
import HandS.Head2
import HandS.HeadEnd
import HandS.HeadHook1
import HandS.HeadHook2
import KE.GoesMore
import KE.GoesEnum
import HandS.HotCalls
import HandS.ExcIs
import HandS.StrSplit
import HandS.HeadHook4
import HandS.Text
import KE.DatumOrd
import PySem.Challenge.RW_snapspace_k14_greedy_plans
set_option Elab.async false
set_option linter.all false
set_option maxRecDepth 100000
set_option maxHeartbeats 0
namespace Sn
open PySem L2
abbrev D := PyData

/-- what an owned object holds: a list, a dict by tuples, a dict by ints and texts -/
inductive C where
  | l (xs : List D) | t (kvs : List (List Key × D)) | k (kvs : List (Key × D))
/-- a slot: empty, a value that never changes, an object of one's own (f: handed in, the slot may not be stored) -/
inductive Sl where
  | un | v (d : D) | ow (f : Bool) (c : C) | lk
/-- a result: a value, a new object, what stands in a slot -/
inductive R where
  | v (d : D) | nw (c : C) | sl (i : Nat)
abbrev En := List Sl
inductive Res (α : Type) where
  | ok (a : α) (ρ : En) | ex (c : Str) (ρ : En) | no
def bnd {α β : Type} (x : Res α) (f : α → En → Res β) : Res β := match x with
  | .ok a ρ => f a ρ
  | .ex c ρ => .ex c ρ
  | .no => .no
@[simp] theorem bnd_ok {α β : Type} (a : α) (ρ : En) (f : α → En → Res β) : bnd (.ok a ρ) f = f a ρ := rfl
@[simp] theorem bnd_ex {α β : Type} (c : Str) (ρ : En) (f : α → En → Res β) : bnd (.ex c ρ : Res α) f = .ex c ρ := rfl
@[simp] theorem bnd_no {α β : Type} (f : α → En → Res β) : bnd (.no : Res α) f = .no := rfl
def noX {α : Type} (x : Res α) : Res α := match x with
  | .ex _ _ => .no
  | x => x
inductive Out where
  | ret (r : R) (io : List D) | ex (c : Str) | no

inductive Bop where | add | sub | mul | fdiv | mod | pow
  deriving DecidableEq
inductive Cop where | eq | ne | lt | le | gt | ge | inn | notIn | isN | notN
  deriving DecidableEq
inductive Bi where | len | sum | all | any | sorted | tuple | list | int | abs | min1 | minT | max1 | min2 | max2 | isInt | isBool | isTup | isStr | dict | srtSet
  deriving DecidableEq
inductive Tg where | nm (i : Nat) | tp (c : Tg) | nl | cs (t r : Tg)
mutual
inductive Ex where
  | var (i : Nat) | lit (d : D)
  | bin (o : Bop) (a b : Ex) | neg (a : Ex) | not (a : Ex)
  | cmp (a : Ex) (l : Lks)
  | and (es : Exs) | or (es : Exs) | ite (c a b : Ex)
  | tup (es : Exs) | lst (es : Exs) | dnew (t : Bool) | disp (ks vs : Exs)
  | ix (a b : Ex) | slc (a lo hi : Ex) | rev (a : Ex) | stp (a s : Ex)
  | call (f : Nat) (es : Exs) | callIO (f i : Nat) (es : Exs)
  | bi (b : Bi) (es : Exs) | listRg (a b : Ex) | tupRg (a b : Ex)
  | get2 (d k x : Ex) | index (a x : Ex)
  | app (i : Nat) (e : Ex) | ext (i : Nat) (e : Ex) | ins (i : Nat) (a e : Ex) | pop0 (i : Nat) | pop (i : Nat) (e : Ex)
  | lc (elt : Ex) (tg : Tg) (it : It) (cd : Ex) (own : List Nat)
  | split (a b : Ex)
inductive Exs where | nil | cons (e : Ex) (es : Exs)
inductive Lks where | one (o : Cop) (e : Ex) | more (o : Cop) (e : Ex) (l : Lks)
inductive It where
  | seq (e : Ex) | rng (a b : Ex) | rng3 (a b c : Ex) | enum (e : Ex) | zip (a b : Ex) | zip3 (a b c : Ex)
end
inductive Sx where
  | skip | seq (a b : Sx)
  | set (i : Nat) (e : Ex) | setT (t : Tg) (e : Ex) | par (is : List Nat) (es : Exs)
  | put (i : Nat) (k e : Ex) | putSl (i : Nat) (lo hi e : Ex)
  | ex (e : Ex) | ret (e : Ex) | raise (c : Str)
  | ite (c : Ex) (a b : Sx) | whl (c : Ex) (b : Sx) | for_ (t : Tg) (it : It) (b : Sx) | forK (t : Tg) (i : Nat) (b : Sx) | brk | cont
  | try_ (b : Sx) (x : Str) (f : Nat)

/-- the script's list, as data: it is read by len and by place alone -/
def scr (xs : List D) : D := .dict [(.none, .list xs)]
def isFlat : D → Bool
  | .none => true | .bool _ => true | .int _ => true | .str _ => true | _ => false
def keyI : D → Option Key
  | .int i => some (.inl i)
  | .str x => some (.inr x)
  | _ => none
def keysI : List D → Option (List Key)
  | [] => some []
  | d :: ds => match keyI d, keysI ds with
    | some k, some ks => some (k :: ks)
    | _, _ => none
def keyL : D → Option (List Key)
  | .tuple ds => keysI ds
  | _ => none
def dKey : Key → D
  | .inl i => .int i
  | .inr x => .str x
def lookD {κ : Type} [DecidableEq κ] : List (κ × D) → κ → Option D
  | [], _ => none
  | (a, d) :: r, k => if a = k then some d else lookD r k
def hasD {κ : Type} [DecidableEq κ] (kvs : List (κ × D)) (k : κ) : Bool := kvs.any fun kv => decide (kv.1 = k)
def putD {κ : Type} [DecidableEq κ] (kvs : List (κ × D)) (k : κ) (d : D) : List (κ × D) :=
  if hasD kvs k = true then kvs.map (fun kv => if kv.1 = k then (kv.1, d) else kv) else kvs ++ [(k, d)]
def intsD : List D → Option (List Int)
  | [] => some []
  | .int i :: r => (intsD r).map (i :: ·)
  | _ :: _ => none
def boolsD : List D → Option (List Bool)
  | [] => some []
  | .bool i :: r => (boolsD r).map (i :: ·)
  | _ :: _ => none
def mulOk (i j : Int) : Bool := (decide (-(2 ^ 64) < i) && decide (i < 2 ^ 64)) || (decide (-(2 ^ 64) < j) && decide (j < 2 ^ 64)) || (decide (i.natAbs < 2 ^ 9000) && decide (j.natAbs < 2 ^ 9000))
def divOk (j : Int) : Bool := decide (0 < j) && (decide (j < 1073741824) || decide (j < 2 ^ 8000))
def powOk (i j : Int) : Bool := decide (0 ≤ j) && (decide (j ≤ 1000000) && decide (i.natAbs < 2 ^ 64))
/-- a op b -/
def binD (o : Bop) (a b : D) : Option R := match o, a, b with
  | .add, .int i, .int j => some (.v (.int (i + j)))
  | .add, .list xs, .list ys => if xs.length + ys.length ≤ sizeLine then some (.nw (.l (xs ++ ys))) else none
  | .add, .tuple xs, .tuple ys => if xs.length + ys.length ≤ sizeLine then some (.v (.tuple (xs ++ ys))) else none
  | .add, .str x, .str y => if x.length + y.length ≤ sizeLine then some (.v (.str (x ++ y))) else none
  | .sub, .int i, .int j => some (.v (.int (i - j)))
  | .mul, .int i, .int j => if mulOk i j then some (.v (.int (i * j))) else none
  | .mul, .list xs, .int k => if decide (-(2 ^ 63) ≤ k) && (decide (k < 2 ^ 63) && decide (xs.length * k.toNat ≤ sizeLine)) then some (.nw (.l (List.replicate k.toNat xs).flatten)) else none
  | .mul, .tuple xs, .int k => if !xs.isEmpty && (decide (2 ≤ k) && (decide (k ≤ 1000) && decide (xs.length ≤ 1000))) then some (.v (.tuple (List.replicate k.toNat xs).flatten)) else none
  | .fdiv, .int i, .int j => if divOk j then some (.v (.int (i / j))) else none
  | .mod, .int i, .int j => if 0 < j then some (.v (.int (i % j))) else none
  | .pow, .int i, .int j => if powOk i j then some (.v (.int (i ^ j.toNat))) else none
  | _, _, _ => none
/-- a op b, a truth value -/
def cmpD (o : Cop) (a b : D) : Option Bool := match o, a, b with
  | .eq, a, b => if SeqAt.shaped a && SeqAt.shaped b then some (PyData.eqv a b) else none
  | .ne, a, b => if SeqAt.shaped a && SeqAt.shaped b then some (!PyData.eqv a b) else none
  | .lt, .int i, .int j => some (decide (i < j))
  | .lt, .tuple xs, .tuple ys => match intsD xs, intsD ys with
    | some ns, some ms => some (HT.lexLt ns ms)
    | _, _ => none
  | .le, .int i, .int j => some (decide (i ≤ j))
  | .gt, .int i, .int j => some (decide (j < i))
  | .ge, .int i, .int j => some (decide (j ≤ i))
  | .inn, a, .list ds => if isFlat a && ds.all isFlat then some (ds.any fun z => PyData.eqv z a) else if SeqAt.shaped a && SeqAt.shaped (.list ds) then some (ds.any fun z => PyData.eqv z a) else none
  | .inn, a, .tuple ds => if isFlat a && ds.all isFlat then some (ds.any fun z => PyData.eqv z a) else none
  | .notIn, a, .list ds => if isFlat a && ds.all isFlat then some (!ds.any fun z => PyData.eqv z a) else if SeqAt.shaped a && SeqAt.shaped (.list ds) then some (!ds.any fun z => PyData.eqv z a) else none
  | .notIn, a, .tuple ds => if isFlat a && ds.all isFlat then some (!ds.any fun z => PyData.eqv z a) else none
  | .inn, .str x, .str y => some (!(Builtin.Str.occurrences y x 0 y.length 1).isEmpty)
  | .notIn, .str x, .str y => some (!(!(Builtin.Str.occurrences y x 0 y.length 1).isEmpty))
  | .isN, .none, .none => some true
  | .isN, _, .none => some false
  | .isN, .bool a, .bool b => some (a == b)
  | .notN, .none, .none => some false
  | .notN, _, .none => some true
  | .notN, .bool a, .bool b => some (!(a == b))
  | _, _, _ => none
def ixD (a : D) (b : D) : Option D := match a, b with
  | .list xs, .int i => atI xs i
  | .tuple xs, .int i => atI xs i
  | .dict [(.none, .list xs)], .int i => atI xs i
  | _, _ => none
def optI : D → Option (Option Int)
  | .none => some none
  | .int i => some (some i)
  | _ => none
def cutD (xs : List D) (lo hi : Option Int) : List D := (xs.drop (HT.sIx xs.length 0 lo)).take (HT.sIx xs.length xs.length hi - HT.sIx xs.length 0 lo)
def slcI (a : D) (lo hi : Option Int) : Option R := match a with
  | .list xs => some (.nw (.l (cutD xs lo hi)))
  | .tuple xs => some (.v (.tuple (cutD xs lo hi)))
  | _ => none
def seqD : D → Option (List D)
  | .list xs => some xs
  | .tuple xs => some xs
  | _ => none
def alikeB (ds : List D) : Bool := ds.all fun d => ds.all fun e => PySem.W.alike d e
/-- all are tuples, the first of them the empty one -/
def sort0 : List D → Bool
  | .tuple [] :: r => r.all fun d => match d with | .tuple _ => true | _ => false
  | _ => false
def sortB (ds : List D) : Bool := (ds.all fun d => match d with | .tuple (_ :: _) => true | _ => false) || ((ds.all fun d => match d with | .none => false | .tuple _ => false | _ => true) || sort0 ds)
/-- none of them is None -/
def nonN (ds : List D) : Bool := ds.all fun d => match d with | .none => false | _ => true
def sortD (ds : List D) : List D := ds.mergeSort (PySem.W.dataLe false id)
/-- an int's least, greatest -/
def foldI (f : Int → Int → Int) : List Int → Option Int
  | [] => none
  | i :: r => some (r.foldl f i)
def minI (i j : Int) : Int := if j < i then j else i
def maxI (i j : Int) : Int := if j > i then j else i
def biD (b : Bi) (vs : List D) : Option R := match b, vs with
  | .len, [.list xs] => some (.v (.int xs.length))
  | .len, [.tuple xs] => some (.v (.int xs.length))
  | .len, [.dict [(.none, .list xs)]] => some (.v (.int xs.length))
  | .sum, [.list xs] => (intsD xs).map fun ns => .v (.int ns.sum)
  | .all, [.list xs] => (boolsD xs).map fun bs => .v (.bool (bs.all id))
  | .any, [.list xs] => (boolsD xs).map fun bs => .v (.bool (bs.any id))
  | .sorted, [.list xs] => if alikeB xs && (sortB xs && decide (PyData.depth (.list xs) ≤ 60)) then some (.nw (.l (sortD xs))) else none
  | .tuple, [.list xs] => some (.v (.tuple xs))
  | .tuple, [.tuple xs] => some (.v (.tuple xs))
  | .list, [.list xs] => some (.nw (.l xs))
  | .list, [.tuple xs] => some (.nw (.l xs))
  | .int, [.int i] => some (.v (.int i))
  | .int, [.bool c] => some (.v (.int (if c then 1 else 0)))
  | .abs, [.int i] => some (.v (.int (if i < 0 then -i else i)))
  | .min1, [.list xs] => (intsD xs).bind fun ns => (foldI minI ns).map fun i => .v (.int i)
  | .minT, [.list (x :: xs)] => if alikeB (x :: xs) && (nonN (x :: xs) && decide (PyData.depth (.list (x :: xs)) ≤ 60)) then some (.v (PySem.W.minD x xs)) else none
  | .max1, [.list xs] => (intsD xs).bind fun ns => (foldI maxI ns).map fun i => .v (.int i)
  | .min2, [.int i, .int j] => some (.v (.int (if j < i then j else i)))
  | .max2, [.int i, .int j] => some (.v (.int (if j > i then j else i)))
  | .isInt, [.dict _] => none
  | .isInt, [d] => some (.v (.bool (match d with | .int _ => true | .bool _ => true | _ => false)))
  | .isBool, [.dict _] => none
  | .isBool, [d] => some (.v (.bool (match d with | .bool _ => true | _ => false)))
  | .isTup, [.dict _] => none
  | .isTup, [d] => some (.v (.bool (match d with | .tuple _ => true | _ => false)))
  | .isStr, [.dict _] => none
  | .isStr, [d] => some (.v (.bool (match d with | .str _ => true | _ => false)))
  | _, _ => none
/-- sorted(set(t)) of ints -/
def insU (i : Int) : List Int → List Int
  | [] => [i]
  | j :: r => if i < j then i :: j :: r else if i = j then j :: r else j :: insU i r
def setI (ns : List Int) : List Int := ns.foldr insU []
def setD : D → Option R
  | .tuple ds => (intsD ds).bind fun ns => if ns.length < 64 then some (.nw (.l ((setI ns).map .int))) else none
  | _ => none
def rngD (a b : Int) : List D := (List.range (b - a).toNat).map fun i => .int (a + (i : Nat))
def rngOk (a b : Int) : Bool := decide (-(2 ^ 62) ≤ a) && (decide (a < 2 ^ 62) && (decide (-(2 ^ 62) ≤ b) && (decide (b < 2 ^ 62) && decide ((b - a).toNat ≤ 16777216))))
def enumD : Nat → List D → List D
  | _, [] => []
  | n, d :: r => .tuple [.int (n : Nat), d] :: enumD (n + 1) r
def zipD : List D → List D → List D
  | d :: r, e :: s => .tuple [d, e] :: zipD r s
  | _, _ => []
def zipD3 : List D → List D → List D → List D
  | d :: r, e :: s, f :: t => .tuple [d, e, f] :: zipD3 r s t
  | _, _, _ => []

def vw (ρ : En) : R → Option D
  | .v d => some d
  | .nw (.l xs) => some (.list xs)
  | .nw _ => none
  | .sl i => match ρ[i]? with
    | some (.ow _ (.l xs)) => some (.list xs)
    | some (.v d) => some d
    | _ => none
/-- a dict -/
def vwC (ρ : En) : R → Option C
  | .sl i => match ρ[i]? with
    | some (.ow _ c) => some c
    | _ => none
  | _ => none
/-- as an operand: a new list is let go -/
def opr (r : R) (ρ : En) : Res R := match r with
  | .nw (.l xs) => .ok (.v (.list xs)) ρ
  | .nw _ => .no
  | r => .ok r ρ
/-- as a value that will not change any more -/
def frz (r : R) (ρ : En) : Res D := match r with
  | .v d => .ok d ρ
  | .nw (.l xs) => .ok (.list xs) ρ
  | .nw _ => .no
  | .sl i => match ρ[i]? with
    | some (.ow false (.l xs)) => .ok (.list xs) (ρ.set i (.v (.list xs)))
    | some (.v d) => .ok d ρ
    | _ => .no
def setS (i : Nat) (s : Sl) (ρ : En) : Res Unit := match ρ[i]? with
  | some (.ow true _) => .no
  | some .lk => .no
  | some _ => .ok () (ρ.set i s)
  | none => .no
/-- a result is stored -/
def setR (i : Nat) (r : R) (ρ : En) : Res Unit := match r with
  | .v d => setS i (.v d) ρ
  | .nw c => setS i (.ow false c) ρ
  | .sl j => match ρ[j]? with
    | some (.ow false c) => setS i (.ow false c) (ρ.set j .un)
    | some (.v d) => setS i (.v d) ρ
    | _ => .no
def asg : Tg → D → En → Res Unit
  | .nm i, d, ρ => setS i (.v d) ρ
  | .tp c, .tuple ds, ρ => asg c (.tuple ds) ρ
  | .tp c, .list ds, ρ => asg c (.tuple ds) ρ
  | .nl, .tuple [], ρ => .ok () ρ
  | .cs t r, .tuple (d :: ds), ρ => bnd (asg t d ρ) fun _ ρ => asg r (.tuple ds) ρ
  | _, _, _ => .no
def wipeE (ρ : En) : List Nat → En
  | [] => ρ
  | i :: r => (wipeE ρ r).set i .un
def freeE (ρ : En) (own : List Nat) : Bool := own.all fun i => match ρ[i]? with
  | some (.ow _ _) => false
  | some .lk => false
  | none => false
  | _ => true
def backE (ρ0 : En) (own : List Nat) (ρ : En) : En := match own with
  | [] => ρ
  | i :: r => (backE ρ0 r ρ).set i (ρ0.getD i .un)
def toB (r : R) (ρ : En) : Res Bool := match r with
  | .v (.bool b) => .ok b ρ
  | _ => .no
def toI (r : R) (ρ : En) : Res (Option Int) := match r with
  | .v (.int i) => .ok (some i) ρ
  | _ => .no
def isNil : Ex → Bool
  | .lit .none => true
  | _ => false
/-- a part of a slice, left out or an int -/
def partO (b : Bool) (v : Res R) (ρ : En) : Res (Option Int) := if b then .ok none ρ else bnd v toI
def opt {α : Type} (o : Option α) (ρ : En) : Res α := match o with
  | some a => .ok a ρ
  | none => .no
/-- a comprehension's turns -/
def lcL (own : List Nat) (tg : Tg) (cd : En → Res Bool) (elt : En → Res D) : List D → List D → En → Res (List D)
  | [], acc, ρ => .ok acc ρ
  | d :: ds, acc, ρ => bnd (asg tg d (wipeE ρ own)) fun _ ρ => bnd (noX (cd ρ)) fun b ρ =>
    if b then bnd (noX (elt ρ)) fun e ρ => lcL own tg cd elt ds (acc ++ [e]) ρ else lcL own tg cd elt ds acc ρ
def outR (o : Out) (ρ : En) : Res R := match o with
  | .ret (.v d) _ => .ok (.v d) ρ
  | .ret (.nw c) _ => .ok (.nw c) ρ
  | .ret (.sl _) _ => .no
  | .ex c => .ex c ρ
  | .no => .no
def outIO (o : Out) (i : Nat) (f : Bool) (ρ : En) : Res R := match o with
  | .ret (.v d) io => .ok (.v d) (ρ.set i (.ow f (.l io)))
  | .ret (.nw c) io => .ok (.nw c) (ρ.set i (.ow f (.l io)))
  | _ => .no
/-- d[k], k in d .. -/
def getC (c : C) (k : D) : Option (Option D) := match c with
  | .l _ => none
  | .t kvs => (keyL k).map (lookD kvs)
  | .k kvs => (keyI k).map (lookD kvs)
def putC (c : C) (k d : D) : Option C := match c with
  | .l xs => match k with
    | .int i => (ixN xs.length i).map fun j => .l (xs.set j d)
    | _ => none
  | .t kvs => if kvs.length < sizeLine then (keyL k).map fun k => .t (putD kvs k d) else none
  | .k kvs => if kvs.length < sizeLine then (keyI k).map fun k => .k (putD kvs k d) else none
def keysC : C → Option (List D)
  | .l _ => none
  | .t kvs => some (kvs.map fun p => .tuple (p.1.map dKey))
  | .k kvs => some (kvs.map fun p => dKey p.1)

/-- x op y of results: the one a dict, or data -/
def cmpR (o : Cop) (x y : R) (ρ : En) : Option Bool := match o, vwC ρ y with
  | .inn, some (.t kvs) => (vw ρ x).bind fun x => (getC (.t kvs) x).map Option.isSome
  | .inn, some (.k kvs) => (vw ρ x).bind fun x => (getC (.k kvs) x).map Option.isSome
  | .notIn, some (.t kvs) => (vw ρ x).bind fun x => (getC (.t kvs) x).map fun r => !r.isSome
  | .notIn, some (.k kvs) => (vw ρ x).bind fun x => (getC (.k kvs) x).map fun r => !r.isSome
  | o, _ => (vw ρ x).bind fun x => (vw ρ y).bind fun y => cmpD o x y
/-- x[y] of results -/
def ixR (x y : R) (ρ : En) : Option D := match vwC ρ x with
  | some (.t kvs) => (vw ρ y).bind fun y => (getC (.t kvs) y).bind id
  | some (.k kvs) => (vw ρ y).bind fun y => (getC (.k kvs) y).bind id
  | _ => (vw ρ x).bind fun x => (vw ρ y).bind fun y => ixD x y
def isLs : Option D → Bool
  | some (.list _) => true
  | _ => false
/-- a.index(x) -/
def idxD (a x : D) : Option Nat := match a with
  | .list xs => if isFlat x && xs.all isFlat then xs.findIdx? (fun z => PyData.eqv z x) else none
  | _ => none
mutual
def evE (Φ : Nat → List D → Out) : Ex → En → Res R
  | .var i, ρ => match ρ[i]? with
    | some (.v d) => .ok (.v d) ρ
    | some (.ow _ _) => .ok (.sl i) ρ
    | _ => .no
  | .lit d, ρ => .ok (.v d) ρ
  | .bin o a b, ρ => bnd (evE Φ a ρ) fun x ρ => bnd (opr x ρ) fun x ρ => bnd (evE Φ b ρ) fun y ρ => bnd (opr y ρ) fun y ρ =>
      bnd (opt (vw ρ x) ρ) fun x ρ => bnd (opt (vw ρ y) ρ) fun y ρ => opt (binD o x y) ρ
  | .neg a, ρ => bnd (evE Φ a ρ) fun x ρ => match x with
    | .v (.int i) => .ok (.v (.int (-i))) ρ
    | _ => .no
  | .not a, ρ => bnd (evE Φ a ρ) fun x ρ => bnd (toB x ρ) fun b ρ => .ok (.v (.bool (!b))) ρ
  | .cmp a l, ρ => bnd (evE Φ a ρ) fun x ρ => bnd (opr x ρ) fun x ρ => bnd (evL Φ l x ρ) fun b ρ => .ok (.v (.bool b)) ρ
  | .and es, ρ => bnd (evAnd Φ es ρ) fun b ρ => .ok (.v (.bool b)) ρ
  | .or es, ρ => bnd (evOr Φ es ρ) fun b ρ => .ok (.v (.bool b)) ρ
  | .ite c a b, ρ => bnd (evE Φ c ρ) fun x ρ => bnd (toB x ρ) fun k ρ => if k then evE Φ a ρ else evE Φ b ρ
  | .tup es, ρ => bnd (evEs Φ es ρ) fun ds ρ => if ds.length ≤ sizeLine then .ok (.v (.tuple ds)) ρ else .no
  | .lst es, ρ => bnd (evEs Φ es ρ) fun ds ρ => if ds.length ≤ sizeLine then .ok (.nw (.l ds)) ρ else .no
  | .dnew t, ρ => .ok (.nw (if t then .t [] else .k [])) ρ
  | .disp _ _, _ => .no
  | .ix a b, ρ => bnd (evE Φ a ρ) fun x ρ => bnd (opr x ρ) fun x ρ => bnd (evE Φ b ρ) fun y ρ => bnd (opr y ρ) fun y ρ => bnd (opt (ixR x y ρ) ρ) fun d ρ => .ok (.v d) ρ
  | .slc a lo hi, ρ => bnd (evE Φ a ρ) fun x ρ => bnd (opr x ρ) fun x ρ => bnd (partO (isNil lo) (evE Φ lo ρ) ρ) fun l ρ => bnd (partO (isNil hi) (evE Φ hi ρ) ρ) fun h ρ =>
      bnd (opt (vw ρ x) ρ) fun x ρ => opt (slcI x l h) ρ
  | .rev a, ρ => bnd (evE Φ a ρ) fun x ρ => bnd (opr x ρ) fun x ρ => bnd (opt (vw ρ x) ρ) fun x ρ => match x with
    | .list xs => .ok (.nw (.l xs.reverse)) ρ
    | .tuple xs => .ok (.v (.tuple xs.reverse)) ρ
    | _ => .no
  | .stp a s, ρ => bnd (evE Φ a ρ) fun x ρ => bnd (opr x ρ) fun x ρ => bnd (evE Φ s ρ) fun y ρ => bnd (opr y ρ) fun y ρ => bnd (opt (vw ρ x) ρ) fun x ρ => bnd (opt (vw ρ y) ρ) fun y ρ => match x, y with
    | .list xs, .int 1 => .ok (.nw (.l xs)) ρ
    | .list xs, .int (-1) => .ok (.nw (.l xs.reverse)) ρ
    | _, _ => .no
  | .call f es, ρ => bnd (evEs Φ es ρ) fun ds ρ => outR (Φ f ds) ρ
  | .callIO f i es, ρ => match ρ[i]? with
    | some (.ow _ _) => bnd (evEs Φ es ρ) fun ds ρ => (match ρ[i]? with
      | some (.ow g (.l xs)) => outIO (Φ f (.list xs :: ds)) i g ρ
      | _ => .no)
    | _ => .no
  | .bi b es, ρ => match b, es with
    | .sorted, .cons e .nil => bnd (evE Φ e ρ) fun x ρ => bnd (opr x ρ) fun x ρ => (match vwC ρ x with
      | some (.t kvs) => opt (biD .sorted [.list (kvs.map fun p => .tuple (p.1.map dKey))]) ρ
      | some (.k _) => .no
      | _ => bnd (opt (vw ρ x) ρ) fun x ρ => opt (biD .sorted [x]) ρ)
    | .srtSet, .cons e .nil => bnd (evE Φ e ρ) fun x ρ => bnd (opr x ρ) fun x ρ => bnd (opt (vw ρ x) ρ) fun x ρ => opt (setD x) ρ
    | .dict, _ => .no
    | .srtSet, _ => .no
    | b, .cons e .nil => bnd (evE Φ e ρ) fun x ρ => bnd (opr x ρ) fun x ρ => bnd (opt (vw ρ x) ρ) fun x ρ => opt (biD b [x]) ρ
    | b, .cons e (.cons g .nil) => bnd (evE Φ e ρ) fun x ρ => bnd (opr x ρ) fun x ρ => bnd (evE Φ g ρ) fun y ρ => bnd (opr y ρ) fun y ρ => bnd (opt (vw ρ x) ρ) fun x ρ => bnd (opt (vw ρ y) ρ) fun y ρ => opt (biD b [x, y]) ρ
    | _, _ => .no
  | .listRg a b, ρ => bnd (evE Φ a ρ) fun x ρ => bnd (evE Φ b ρ) fun y ρ => match x, y with
    | .v (.int i), .v (.int j) => if rngOk i j then .ok (.nw (.l (rngD i j))) ρ else .no
    | _, _ => .no
  | .tupRg a b, ρ => bnd (evE Φ a ρ) fun x ρ => bnd (evE Φ b ρ) fun y ρ => match x, y with
    | .v (.int i), .v (.int j) => if rngOk i j then .ok (.v (.tuple (rngD i j))) ρ else .no
    | _, _ => .no
  | .get2 d k x, ρ => bnd (evE Φ d ρ) fun d ρ => match d with
    | .sl i => (match ρ[i]? with
      | some (.ow _ (.l _)) => .no
      | some (.ow _ c) => bnd (evE Φ k ρ) fun k ρ => bnd (frz k ρ) fun k ρ => bnd (evE Φ x ρ) fun x ρ => bnd (frz x ρ) fun x ρ =>
        bnd (opt (vwC ρ (.sl i)) ρ) fun c ρ => bnd (opt (getC c k) ρ) fun r ρ => .ok (.v (r.getD x)) ρ
      | _ => .no)
    | _ => .no
  | .index a x, ρ => bnd (evE Φ a ρ) fun a ρ => if isLs (vw ρ a) then bnd (opr a ρ) fun a ρ => bnd (evE Φ x ρ) fun x ρ => bnd (opr x ρ) fun x ρ => bnd (opt (vw ρ a) ρ) fun a ρ => bnd (opt (vw ρ x) ρ) fun x ρ => opt ((idxD a x).map fun j => .v (.int (j : Nat))) ρ else .no
  | .app i e, ρ => match ρ[i]? with
    | some (.ow _ (.l _)) => bnd (evE Φ e ρ) fun x ρ => bnd (frz x ρ) fun d ρ => (match ρ[i]? with
      | some (.ow f (.l xs)) => if xs.length < sizeLine then .ok (.v .none) (ρ.set i (.ow f (.l (xs ++ [d])))) else .no
      | _ => .no)
    | _ => .no
  | .ext i e, ρ => match ρ[i]? with
    | some (.ow _ (.l _)) => bnd (evE Φ e ρ) fun x ρ => (match x, ρ[i]? with
      | .nw (.l ys), some (.ow f (.l xs)) => if xs.length + ys.length ≤ sizeLine then .ok (.v .none) (ρ.set i (.ow f (.l (xs ++ ys)))) else .no
      | _, _ => .no)
    | _ => .no
  | .ins _ _ _, _ => .no
  | .pop0 _, _ => .no
  | .pop i e, ρ => match ρ[i]? with
    | some (.ow _ (.l _)) => bnd (evE Φ e ρ) fun x ρ => (match x, ρ[i]? with
      | .v (.int j), some (.ow f (.l xs)) => (match ixN xs.length j with
        | some m => (match xs[m]? with
          | some d => .ok (.v d) (ρ.set i (.ow f (.l (xs.eraseIdx m))))
          | none => .no)
        | none => .no)
      | _, _ => .no)
    | _ => .no
  | .lc elt tg it cd own, ρ => bnd (evI Φ it ρ) fun l ρ => if freeE ρ own then
      bnd (lcL own tg (fun ρ => bnd (evE Φ cd ρ) toB) (fun ρ => bnd (evE Φ elt ρ) frz) l [] ρ) fun l ρ' => .ok (.nw (.l l)) (backE ρ own ρ') else .no
  | .split _ _, _ => .no
def evL (Φ : Nat → List D → Out) : Lks → R → En → Res Bool
  | .one o e, x, ρ => bnd (evE Φ e ρ) fun y ρ => bnd (opr y ρ) fun y ρ => opt (cmpR o x y ρ) ρ
  | .more o e l, x, ρ => bnd (evE Φ e ρ) fun y ρ => bnd (opr y ρ) fun y ρ => bnd (opt (cmpR o x y ρ) ρ) fun k ρ => if k then evL Φ l y ρ else .ok false ρ
def evAnd (Φ : Nat → List D → Out) : Exs → En → Res Bool
  | .nil, ρ => .ok true ρ
  | .cons e es, ρ => bnd (evE Φ e ρ) fun x ρ => bnd (toB x ρ) fun k ρ => if k then evAnd Φ es ρ else .ok false ρ
def evOr (Φ : Nat → List D → Out) : Exs → En → Res Bool
  | .nil, ρ => .ok false ρ
  | .cons e es, ρ => bnd (evE Φ e ρ) fun x ρ => bnd (toB x ρ) fun k ρ => if k then .ok true ρ else evOr Φ es ρ
def evEs (Φ : Nat → List D → Out) : Exs → En → Res (List D)
  | .nil, ρ => .ok [] ρ
  | .cons e es, ρ => bnd (evE Φ e ρ) fun x ρ => bnd (frz x ρ) fun d ρ => bnd (evEs Φ es ρ) fun ds ρ => .ok (d :: ds) ρ
def evI (Φ : Nat → List D → Out) : It → En → Res (List D)
  | .seq e, ρ => bnd (evE Φ e ρ) fun x ρ => bnd (frz x ρ) fun d ρ => opt (seqD d) ρ
  | .rng a b, ρ => bnd (evE Φ a ρ) fun x ρ => bnd (evE Φ b ρ) fun y ρ => match x, y with
    | .v (.int i), .v (.int j) => if rngOk i j then .ok (rngD i j) ρ else .no
    | _, _ => .no
  | .rng3 _ _ _, _ => .no
  | .enum e, ρ => bnd (evE Φ e ρ) fun x ρ => bnd (frz x ρ) fun d ρ => match d with
    | .list l => .ok (enumD 0 l) ρ
    | _ => .no
  | .zip a b, ρ => bnd (evE Φ a ρ) fun x ρ => bnd (frz x ρ) fun d ρ => bnd (evE Φ b ρ) fun y ρ => bnd (frz y ρ) fun e ρ => match d, e with
    | .list xs, .list ys => .ok (zipD xs ys) ρ
    | .tuple xs, .tuple ys => .ok (zipD xs ys) ρ
    | _, _ => .no
  | .zip3 a b c, ρ => bnd (evE Φ a ρ) fun x ρ => bnd (frz x ρ) fun d ρ => bnd (evE Φ b ρ) fun y ρ => bnd (frz y ρ) fun e ρ => bnd (evE Φ c ρ) fun u ρ => bnd (frz u ρ) fun f ρ => match d, e, f with
    | .tuple xs, .tuple ys, .tuple zs => .ok (zipD3 xs ys zs) ρ
    | _, _, _ => .no
end

inductive Fl where | nx | bk | ct | rt (r : R)
def forL (tg : Tg) (b : En → Res Fl) : List D → En → Res Fl
  | [], ρ => .ok .nx ρ
  | d :: ds, ρ => bnd (asg tg d ρ) fun _ ρ => bnd (b ρ) fun f ρ => match f with
    | .nx => forL tg b ds ρ
    | .ct => forL tg b ds ρ
    | .bk => .ok .nx ρ
    | .rt r => .ok (.rt r) ρ
def whlL (c : En → Res Bool) (b : En → Res Fl) : Nat → En → Res Fl
  | 0, _ => .no
  | n + 1, ρ => bnd (c ρ) fun k ρ => if k then bnd (b ρ) fun f ρ => (match f with
    | .nx => whlL c b n ρ
    | .ct => whlL c b n ρ
    | .bk => .ok .nx ρ
    | .rt r => .ok (.rt r) ρ) else .ok .nx ρ
def fuelN : Nat := 100000
/-- the classes of errors, and the word for each -/
def ers : List Str := ["InvalidLayout", "InvalidSet", "InvalidHistory", "InvalidCount", "InvalidRuns", "InvalidNumber", "InvalidReport", "InvalidPosition", "InvalidChain", "InvalidWorkload", "InvalidName", "InvalidSize", "NoSuchFile", "NoSuchSnapshot", "TooMany", "NothingToUndo"]
def wds : List Str := ["layout", "set", "history", "count", "runs", "number", "report", "position", "chain", "workload", "name", "size", "nofile", "nosnapshot", "many", "undo"]
def enm (c : Str) : Option Str := (ers.zip wds).lookup c
def setRs : List Nat → List R → En → Res Unit
  | [], [], ρ => .ok () ρ
  | i :: is, r :: rs, ρ => bnd (setR i r ρ) fun _ ρ => setRs is rs ρ
  | _, _, _ => .no
def evRs (Φ : Nat → List D → Out) : Exs → En → Res (List R)
  | .nil, ρ => .ok [] ρ
  | .cons e es, ρ => bnd (evE Φ e ρ) fun x ρ => match x with
    | .sl _ => .no
    | x => bnd (evRs Φ es ρ) fun xs ρ => .ok (x :: xs) ρ
def evS (Φ : Nat → List D → Out) : Sx → En → Res Fl
  | .skip, ρ => .ok .nx ρ
  | .seq a b, ρ => bnd (evS Φ a ρ) fun f ρ => match f with
    | .nx => evS Φ b ρ
    | f => .ok f ρ
  | .set i e, ρ => bnd (evE Φ e ρ) fun r ρ => bnd (setR i r ρ) fun _ ρ => .ok .nx ρ
  | .setT t e, ρ => bnd (evE Φ e ρ) fun r ρ => bnd (frz r ρ) fun d ρ => bnd (asg t d ρ) fun _ ρ => .ok .nx ρ
  | .par is es, ρ => bnd (evRs Φ es ρ) fun rs ρ => bnd (setRs is rs ρ) fun _ ρ => .ok .nx ρ
  | .put i k e, ρ => bnd (evE Φ e ρ) fun r ρ => bnd (frz r ρ) fun d ρ => match ρ[i]? with
    | some (.ow _ _) => bnd (evE Φ k ρ) fun k ρ => bnd (frz k ρ) fun k ρ => (match ρ[i]? with
      | some (.ow f c) => bnd (opt (putC c k d) ρ) fun c ρ => .ok .nx (ρ.set i (.ow f c))
      | _ => .no)
    | _ => .no
  | .putSl _ _ _ _, _ => .no
  | .ex e, ρ => bnd (evE Φ e ρ) fun _ ρ => .ok .nx ρ
  | .ret e, ρ => bnd (evE Φ e ρ) fun r ρ => .ok (.rt r) ρ
  | .raise c, ρ => .ex c ρ
  | .ite c a b, ρ => bnd (evE Φ c ρ) fun x ρ => bnd (toB x ρ) fun k ρ => if k then evS Φ a ρ else evS Φ b ρ
  | .whl c b, ρ => whlL (fun ρ => bnd (evE Φ c ρ) toB) (evS Φ b) fuelN ρ
  | .for_ t it b, ρ => bnd (evI Φ it ρ) fun l ρ => forL t (evS Φ b) l ρ
  | .forK _ _ _, _ => .no
  | .brk, ρ => .ok .bk ρ
  | .cont, ρ => .ok .ct ρ
  | .try_ b _ i, ρ => match evS Φ b ρ with
    | .ok f ρ => .ok f ρ
    | .ex c ρ => if i < ρ.length then (match enm c with
      | some w => .ok (.rt (.v (.str w))) (ρ.set i .un)
      | none => .no) else .no
    | .no => .no

structure Fd where
  np : Nat
  ns : Nat
  io : Bool
  body : Sx
def startE (fd : Fd) (args : List D) : Option En := if args.length = fd.np then (if fd.io then (match args with
    | .list xs :: r => some (.ow true (.l xs) :: r.map .v ++ List.replicate (fd.ns - fd.np) .un)
    | _ => none) else some (args.map .v ++ List.replicate (fd.ns - fd.np) .un)) else none
def ioE (fd : Fd) (ρ : List Sl) : Option (List D) := if fd.io then (match ρ[0]? with
    | some (Sl.ow true (C.l xs)) => some xs
    | _ => none) else some []
def endR (ρ : En) : R → Option R
  | .v d => some (.v d)
  | .nw c => some (.nw c)
  | .sl i => match ρ[i]? with
    | some (.ow false c) => some (.nw c)
    | some (.v d) => some (.v d)
    | _ => none
def outF (fd : Fd) (x : Res Fl) : Out := match x with
  | .ok .nx ρ => (match ioE fd ρ with
    | some xs => .ret (.v .none) xs
    | none => .no)
  | .ok (.rt r) ρ => (match ioE fd ρ, endR ρ r with
    | some xs, some r => .ret r xs
    | _, _ => .no)
  | .ex c _ => if fd.io then .no else .ex c
  | _ => .no
def runF (Φ : Nat → List D → Out) (fd : Fd) (args : List D) : Out := match startE fd args with
  | some ρ => outF fd (evS Φ fd.body ρ)
  | none => .no
def sem (T : List Fd) : Nat → Nat → List D → Out
  | 0, _, _ => .no
  | n + 1, f, args => match T[f]? with
    | some fd => runF (sem T n) fd args
    | none => .no
end Sn

namespace Sn
open PySem PySem.Spec L2

def Sub (F H : Hp) : Prop := ∀ a o, F a = some o → H a = some o
theorem Sub.refl {F : Hp} : Sub F F := fun _ _ h => h
theorem Sub.trans {F H J : Hp} (a : Sub F H) (b : Sub H J) : Sub F J := fun _ _ h => b _ _ (a _ _ h)
theorem Sub.rd {F H : Hp} (s : Sub F H) {a : Addr} {u : HO} (h : Rd F a u) : Rd H a u := by
  rcases h with h | ⟨o, h⟩
  · exact .inl (s _ _ h)
  · exact .inr ⟨o, s _ _ h⟩
theorem Sub.upd {F : Hp} {a : Addr} {o : HO} (n : F a = none) : Sub F (upd F a o) := fun b u h => by
  rw [upd_ne (ne_of_none h n)]; exact h
theorem Sub.none {F H : Hp} (s : Sub F H) {a : Addr} (n : H a = none) : F a = none := by
  cases e : F a with
  | none => rfl
  | some o => rw [s _ _ e] at n; cases n
def HLen (F : Hp) : Prop := ∀ a xs, (Rd F a (.lst xs) ∨ Rd F a (.tup xs)) → xs.length ≤ sizeLine

variable {K : PySem.W.Frag} {F F' H H' G : Hp}
mutual
/-- v stands for d, by frozen things alone -/
inductive At (K : PySem.W.Frag) (F : Hp) : V → D → Prop
  | non : At K F .non .none
  | bl (b : Bool) : At K F (.bl b) (.bool b)
  | int (i : Int) : At K F (.int i) (.int i)
  | str (x : Str) : At K F (.str x) (.str x)
  | lst {a : Addr} {xs : List V} {ds : List D} : Rd F a (.lst xs) → AtAll K F xs ds → At K F (.ref a) (.list ds)
  | tup {a : Addr} {xs : List V} {ds : List D} : F a = some (.tup xs) → AtAll K F xs ds → At K F (.ref a) (.tuple ds)
  | scr {a : Addr} {xs : List V} {ds : List D} : SqL K F a xs → AtAll K F xs ds → At K F (.ref a) (.dict [(.none, .list ds)])
inductive AtAll (K : PySem.W.Frag) (F : Hp) : List V → List D → Prop
  | nil : AtAll K F [] []
  | cons {v : V} {vs : List V} {d : D} {ds : List D} : At K F v d → AtAll K F vs ds → AtAll K F (v :: vs) (d :: ds)
end
mutual
theorem At.sub (s : Sub F H) : ∀ (d : D) (v : V), At K F v d → At K H v d
  | .none, _, h => by cases h; exact .non
  | .bool _, _, h => by cases h; exact .bl _
  | .int _, _, h => by cases h; exact .int _
  | .str _, _, h => by cases h; exact .str _
  | .list ds, _, h => by
    cases h with
    | lst h1 h2 => exact .lst (s.rd h1) (AtAll.sub s ds _ h2)
  | .tuple ds, _, h => by
    cases h with
    | tup h1 h2 => exact .tup (s _ _ h1) (AtAll.sub s ds _ h2)
  | .dict [(.none, .list ds)], _, h => by
    cases h with
    | scr h1 h2 => exact .scr (by
        rcases h1 with h1 | h1
        · exact .inl (s.rd h1)
        · exact .inr h1) (AtAll.sub s ds _ h2)
  | .dict [], _, h => by cases h
  | .dict ((.none, .list _) :: _ :: _), _, h => by cases h
  | .dict ((.none, .none) :: _), _, h => by cases h
  | .dict ((.none, .bool _) :: _), _, h => by cases h
  | .dict ((.none, .int _) :: _), _, h => by cases h
  | .dict ((.none, .str _) :: _), _, h => by cases h
  | .dict ((.none, .tuple _) :: _), _, h => by cases h
  | .dict ((.none, .dict _) :: _), _, h => by cases h
  | .dict ((.bool _, _) :: _), _, h => by cases h
  | .dict ((.int _, _) :: _), _, h => by cases h
  | .dict ((.str _, _) :: _), _, h => by cases h
  | .dict ((.list _, _) :: _), _, h => by cases h
  | .dict ((.tuple _, _) :: _), _, h => by cases h
  | .dict ((.dict _, _) :: _), _, h => by cases h
theorem AtAll.sub (s : Sub F H) : ∀ (ds : List D) (vs : List V), AtAll K F vs ds → AtAll K H vs ds
  | [], _, h => by cases h; exact .nil
  | d :: ds, _, h => by
    cases h with
    | cons h1 h2 => exact .cons (At.sub s d _ h1) (AtAll.sub s ds _ h2)
end
theorem At.mono (s : Sub F H) {d : D} {v : V} (h : At K F v d) : At K H v d := At.sub s d v h
theorem AtAll.mono (s : Sub F H) {ds : List D} {vs : List V} (h : AtAll K F vs ds) : AtAll K H vs ds := AtAll.sub s ds vs h
theorem AtAll.length : ∀ {ds : List D} {vs : List V}, AtAll K F vs ds → vs.length = ds.length
  | [], _, h => by cases h; rfl
  | d :: ds, _, h => by
    cases h with
    | cons h1 h2 => simp [AtAll.length h2]
theorem AtAll.append : ∀ {ds es : List D} {vs us : List V}, AtAll K F vs ds → AtAll K F us es → AtAll K F (vs ++ us) (ds ++ es)
  | [], _, _, _, h, h' => by cases h; exact h'
  | d :: ds, _, _, _, h, h' => by
    cases h with
    | cons h1 h2 => exact .cons h1 (AtAll.append h2 h')
theorem AtAll.get : ∀ {ds : List D} {vs : List V} {i : Nat} {d : D}, AtAll K F vs ds → ds[i]? = some d → ∃ v, vs[i]? = some v ∧ At K F v d
  | [], _, _, _, h, e => by simp at e
  | d :: ds, _, 0, _, h, e => by
    cases h with
    | cons h1 h2 => simp at e; subst e; exact ⟨_, rfl, h1⟩
  | d :: ds, _, i + 1, _, h, e => by
    cases h with
    | cons h1 h2 =>
      obtain ⟨v, q1, q2⟩ := AtAll.get (i := i) h2 (by simpa using e)
      exact ⟨v, by simpa using q1, q2⟩
theorem AtAll.getV : ∀ {ds : List D} {vs : List V} {i : Nat} {v : V}, AtAll K F vs ds → vs[i]? = some v → ∃ d, ds[i]? = some d ∧ At K F v d
  | [], _, _, _, h, e => by cases h; simp at e
  | d :: ds, _, 0, _, h, e => by
    cases h with
    | cons h1 h2 => simp at e; subst e; exact ⟨_, rfl, h1⟩
  | d :: ds, _, i + 1, _, h, e => by
    cases h with
    | cons h1 h2 =>
      obtain ⟨v, q1, q2⟩ := AtAll.getV (i := i) h2 (by simpa using e)
      exact ⟨v, by simpa using q1, q2⟩
theorem AtAll.take : ∀ {ds : List D} {vs : List V} (n : Nat), AtAll K F vs ds → AtAll K F (vs.take n) (ds.take n)
  | _, _, 0, _ => by simp; exact .nil
  | [], _, n + 1, h => by cases h; exact .nil
  | d :: ds, _, n + 1, h => by
    cases h with
    | cons h1 h2 => exact .cons h1 (AtAll.take n h2)
theorem AtAll.drop : ∀ {ds : List D} {vs : List V} (n : Nat), AtAll K F vs ds → AtAll K F (vs.drop n) (ds.drop n)
  | _, _, 0, h => h
  | [], _, n + 1, h => by cases h; exact .nil
  | d :: ds, _, n + 1, h => by
    cases h with
    | cons h1 h2 => exact AtAll.drop n h2
theorem AtAll.set : ∀ {ds : List D} {vs : List V} (i : Nat) {d : D} {v : V}, AtAll K F vs ds → At K F v d → AtAll K F (vs.set i v) (ds.set i d)
  | [], _, _, _, _, h, _ => by cases h; exact .nil
  | d :: ds, _, 0, _, _, h, q => by
    cases h with
    | cons h1 h2 => exact .cons q h2
  | d :: ds, _, i + 1, _, _, h, q => by
    cases h with
    | cons h1 h2 => exact .cons h1 (AtAll.set i h2 q)
theorem AtAll.eraseIdx : ∀ {ds : List D} {vs : List V} (i : Nat), AtAll K F vs ds → AtAll K F (vs.eraseIdx i) (ds.eraseIdx i)
  | [], _, _, h => by cases h; exact .nil
  | d :: ds, _, 0, h => by
    cases h with
    | cons h1 h2 => exact h2
  | d :: ds, _, i + 1, h => by
    cases h with
    | cons h1 h2 => exact .cons h1 (AtAll.eraseIdx i h2)
theorem AtAll.reverse : ∀ {ds : List D} {vs : List V}, AtAll K F vs ds → AtAll K F vs.reverse ds.reverse
  | [], _, h => by cases h; exact .nil
  | d :: ds, _, h => by
    cases h with
    | cons h1 h2 => simp; exact AtAll.append (AtAll.reverse h2) (.cons h1 .nil)
theorem AtAll.one {d : D} {v : V} (h : At K F v d) : AtAll K F [v] [d] := .cons h .nil
theorem AtAll.replicate {ds : List D} {vs : List V} (h : AtAll K F vs ds) : ∀ n, AtAll K F (List.replicate n vs).flatten (List.replicate n ds).flatten
  | 0 => .nil
  | n + 1 => by simp only [List.replicate_succ, List.flatten_cons]; exact AtAll.append h (AtAll.replicate h n)
/-- ints -/
theorem AtAll.ints : ∀ {ns : List Int} {vs : List V}, AtAll K F vs (ns.map .int) → vs = ns.map .int
  | [], _, h => by cases h; rfl
  | n :: ns, _, h => by
    cases h with
    | cons h1 h2 => cases h1; rw [AtAll.ints h2]; rfl
theorem AtAll.bools : ∀ {ns : List Bool} {vs : List V}, AtAll K F vs (ns.map .bool) → vs = ns.map .bl
  | [], _, h => by cases h; rfl
  | n :: ns, _, h => by
    cases h with
    | cons h1 h2 => cases h1; rw [AtAll.bools h2]; rfl
theorem intsD_map : ∀ {ds : List D} {ns : List Int}, intsD ds = some ns → ds = ns.map .int
  | [], ns, h => by simp [intsD] at h; subst h; rfl
  | d :: ds, ns, h => by
    cases d <;> simp [intsD] at h
    obtain ⟨ms, h1, h2⟩ := h
    subst h2
    rw [intsD_map h1]; rfl
theorem boolsD_map : ∀ {ds : List D} {ns : List Bool}, boolsD ds = some ns → ds = ns.map .bool
  | [], ns, h => by simp [boolsD] at h; subst h; rfl
  | d :: ds, ns, h => by
    cases d <;> simp [boolsD] at h
    obtain ⟨ms, h1, h2⟩ := h
    subst h2
    rw [boolsD_map h1]; rfl

def KD {κ : Type} (K : PySem.W.Frag) (F : Hp) : List (κ × D) → List (κ × V) → Prop
  | [], [] => True
  | (k, d) :: r, (k', v) :: s => k = k' ∧ At K F v d ∧ KD K F r s
  | _, _ => False
theorem KD.mono {κ : Type} (s : Sub F H) : ∀ {kvs : List (κ × D)} {ws : List (κ × V)}, KD K F kvs ws → KD K H kvs ws
  | [], [], _ => trivial
  | (k, d) :: r, (k', v) :: t, h => ⟨h.1, At.mono s h.2.1, KD.mono s h.2.2⟩
  | [], _ :: _, h => h.elim
  | _ :: _, [], h => h.elim
theorem KD.length {κ : Type} : ∀ {kvs : List (κ × D)} {ws : List (κ × V)}, KD K F kvs ws → ws.length = kvs.length
  | [], [], _ => rfl
  | (k, d) :: r, (k', v) :: t, h => by simp [KD.length h.2.2]
  | [], _ :: _, h => h.elim
  | _ :: _, [], h => h.elim
def COk (K : PySem.W.Frag) (F H : Hp) (a : Addr) : C → Prop
  | .l xs => ∃ vs, H a = some (.lst vs) ∧ AtAll K F vs xs ∧ xs.length ≤ sizeLine
  | .t kvs => ∃ ws, H a = some (.dT ws) ∧ KD K F kvs ws
  | .k kvs => ∃ ws, H a = some (.dK ws) ∧ KD K F kvs ws
theorem COk.mono (s : Sub F F') {a : Addr} (e : H' a = H a) : ∀ {c : C}, COk K F H a c → COk K F' H' a c
  | .l xs, ⟨vs, h1, h2, h3⟩ => ⟨vs, by rw [e]; exact h1, AtAll.mono s h2, h3⟩
  | .t kvs, ⟨ws, h1, h2⟩ => ⟨ws, by rw [e]; exact h1, KD.mono s h2⟩
  | .k kvs, ⟨ws, h1, h2⟩ => ⟨ws, by rw [e]; exact h1, KD.mono s h2⟩
theorem COk.some {a : Addr} : ∀ {c : C}, COk K F H a c → H a ≠ none
  | .l xs, ⟨vs, h1, h2, h3⟩ => by rw [h1]; simp
  | .t kvs, ⟨ws, h1, h2⟩ => by rw [h1]; simp
  | .k kvs, ⟨ws, h1, h2⟩ => by rw [h1]; simp

abbrev Pz := Nat → Option V
def SlOk (K : PySem.W.Frag) (G : Hp) (p : Option V) (F H : Hp) (o : Option V) : Sl → Prop
  | .un => True
  | .v d => ∃ v, o = some v ∧ At K F v d
  | .ow f c => ∃ a, o = some (.ref a) ∧ (f = true → p = some (.ref a)) ∧ F a = none ∧ G a = none ∧ COk K F H a c
  | .lk => o = p
/-- a slot's own object -/
def Own (ρ : List Sl) (σ : St) (i : Nat) (a : Addr) : Prop := ∃ f c, ρ[i]? = some (.ow f c) ∧ σ[i]? = some (some (.ref a))
structure Rep (K : PySem.W.Frag) (G : Hp) (z : Pz) (F : Hp) (ρ : List Sl) (σ : St) (H : Hp) : Prop where
  len : ρ.length = σ.length
  fh : Sub F H
  gh : Sub G H
  fg : ∀ a, F a ≠ none → G a = none
  hl : HLen F
  sl : ∀ i s, ρ[i]? = some s → ∃ o, σ[i]? = some o ∧ SlOk K G (z i) F H o s
  ap : ∀ i j a, Own ρ σ i a → Own ρ σ j a → i = j
  gt : ∀ a xs, G a ≠ some (.tup xs)
variable {z : Pz} {ρ ρ' : List Sl} {σ σ' : St}
theorem Rep.ow (R : Rep K G z F ρ σ H) {i : Nat} {f : Bool} {c : C} (e : ρ[i]? = some (.ow f c)) :
    ∃ a, σ[i]? = some (some (.ref a)) ∧ (f = true → z i = some (.ref a)) ∧ F a = none ∧ G a = none ∧ COk K F H a c := by
  obtain ⟨o, h1, a, h2, h3⟩ := R.sl i _ e
  subst h2
  exact ⟨a, h1, h3⟩
theorem Rep.va (R : Rep K G z F ρ σ H) {i : Nat} {d : D} (e : ρ[i]? = some (.v d)) : ∃ v, σ[i]? = some (some v) ∧ At K F v d := by
  obtain ⟨o, h1, v, h2, h3⟩ := R.sl i _ e
  subst h2
  exact ⟨v, h1, h3⟩
theorem Rep.own_none (R : Rep K G z F ρ σ H) {i : Nat} {a : Addr} (h : Own ρ σ i a) : F a = none ∧ G a = none ∧ H a ≠ none := by
  obtain ⟨f, c, e, h⟩ := h
  obtain ⟨b, h1, h2, h3, h4, h5⟩ := R.ow e
  rw [h] at h1; cases h1
  exact ⟨h3, h4, h5.some⟩

/-- new things alone -/
structure Stp (F H F' H' : Hp) : Prop where
  ff : Sub F F'
  fh : Sub F' H'
  hl : HLen F'
  kp : ∀ a, H a ≠ none → H' a = H a
  nw : ∀ a, F' a ≠ none → F a ≠ none ∨ H a = none
theorem Stp.refl (s : Sub F H) (l : HLen F) : Stp F H F H := ⟨.refl, s, l, fun _ _ => rfl, fun _ h => .inl h⟩
theorem Stp.trans {F2 H2 : Hp} (a : Stp F H F' H') (b : Stp F' H' F2 H2) : Stp F H F2 H2 := ⟨a.ff.trans b.ff, b.fh, b.hl, fun c h => by
  rw [b.kp c (by rw [a.kp c h]; exact h), a.kp c h], fun c h => by
  rcases b.nw c h with h | h
  · exact a.nw c h
  · refine .inr ?_
    cases e : H c with
    | none => rfl
    | some o => rw [a.kp c (by rw [e]; simp), e] at h; cases h⟩
theorem HLen.upd {a : Addr} {o : HO} (l : HLen F) (h : ∀ xs, o = .lst xs ∨ o = .tup xs → xs.length ≤ sizeLine) (h2 : ∀ ob u, o ≠ .frz ob u) : HLen (upd F a o) := by
  intro b xs r
  by_cases e : b = a
  · subst e
    rcases r with (r | ⟨ob, r⟩) | (r | ⟨ob, r⟩) <;> rw [upd_same] at r <;> cases r
    · exact h _ (.inl rfl)
    · exact absurd rfl (h2 _ _)
    · exact h _ (.inr rfl)
    · exact absurd rfl (h2 _ _)
  · refine l b xs ?_
    rcases r with (r | ⟨ob, r⟩) | (r | ⟨ob, r⟩) <;> rw [upd_ne e] at r
    · exact .inl (.inl r)
    · exact .inl (.inr ⟨ob, r⟩)
    · exact .inr (.inl r)
    · exact .inr (.inr ⟨ob, r⟩)
/-- a new tuple -/
theorem Stp.tup (s : Sub F H) (l : HLen F) {p : Addr} (n : H p = none) {xs : List V} (hx : xs.length ≤ sizeLine) : Stp F H (upd F p (.tup xs)) (upd H p (.tup xs)) := by
  have nF := s.none n
  refine ⟨Sub.upd nF, fun b o h => ?_, l.upd (fun ys e => ?_) (fun _ _ e => nomatch e), fun a h => ?_, fun a h => ?_⟩
  · by_cases e : b = p
    · subst e; rw [upd_same] at h ⊢; exact h
    · rw [upd_ne e] at h ⊢; exact s _ _ h
  · rcases e with e | e <;> cases e
    exact hx
  · rw [upd_ne]; rintro rfl; exact h n
  · by_cases e : a = p
    · subst e; exact .inr n
    · rw [upd_ne e] at h; exact .inl h
/-- a new object of one's own -/
theorem Stp.new (s : Sub F H) (l : HLen F) {p : Addr} (n : H p = none) {o : HO} : Stp F H F (upd H p o) := by
  refine ⟨.refl, fun b u h => ?_, l, fun a h => ?_, fun a h => .inl h⟩
  · rw [upd_ne (ne_of_none (s _ _ h) n)]; exact s _ _ h
  · rw [upd_ne]; rintro rfl; exact h n
theorem Rep.stp (R : Rep K G z F ρ σ H) (S : Stp F H F' H') : Rep K G z F' ρ σ H' := by
  have gk : Sub G H' := fun a o h => by
    have q := R.gh _ _ h
    rw [S.kp a (by rw [q]; simp)]; exact q
  have gn : ∀ a, H a = none → G a = none := fun a h => R.gh.none h
  refine ⟨R.len, S.fh, gk, fun a h => ?_, S.hl, fun i s e => ?_, R.ap, R.gt⟩
  · rcases S.nw a h with h | h
    · exact R.fg a h
    · exact gn a h
  · obtain ⟨o, h1, h2⟩ := R.sl i s e
    refine ⟨o, h1, ?_⟩
    cases s with
    | un => trivial
    | v d => obtain ⟨v, h3, h4⟩ := h2; exact ⟨v, h3, At.mono S.ff h4⟩
    | ow f c =>
      obtain ⟨a, h3, h4, h5, h6, h7⟩ := h2
      refine ⟨a, h3, h4, ?_, h6, COk.mono S.ff (S.kp a h7.some) h7⟩
      cases q : F' a with
      | none => rfl
      | some u =>
        rcases S.nw a (by rw [q]; simp) with h | h
        · exact absurd h5 h
        · exact absurd h h7.some
    | lk => exact h2

def ROk (K : PySem.W.Frag) (G F H : Hp) (ρ : List Sl) (σ : St) : R → V → Prop
  | .v d, v => At K F v d
  | .nw c, v => ∃ a, v = .ref a ∧ F a = none ∧ G a = none ∧ (∀ i, ¬ Own ρ σ i a) ∧ COk K F H a c
  | .sl i, v => σ[i]? = some (some v)
/-- a value as one operand: data, or a list of one's own -/
def Vw (K : PySem.W.Frag) (F H : Hp) (v : V) (d : D) : Prop := At K F v d ∨ ∃ a vs xs, v = .ref a ∧ d = .list xs ∧ H a = some (.lst vs) ∧ AtAll K F vs xs ∧ xs.length ≤ sizeLine
mutual
/-- no dict within -/
def ndD : D → Bool
  | .list xs => ndAll xs
  | .tuple xs => ndAll xs
  | .dict _ => false
  | _ => true
def ndAll : List D → Bool
  | [] => true
  | x :: xs => ndD x && ndAll xs
end
mutual
theorem At.dp (s : Sub F H) : ∀ (d : D) (v : V), ndD d = true → At K F v d → L2.Dp K H v d
  | .none, _, _, h => by cases h; exact .non
  | .bool _, _, _, h => by cases h; exact .bl _
  | .int _, _, _, h => by cases h; exact .int _
  | .str _, _, _, h => by cases h; exact .str _
  | .list ds, _, n, h => by
    cases h with
    | lst h1 h2 => exact .lst (.inl (s.rd h1)) (AtAll.dp s ds _ (by simpa [ndD] using n) h2)
  | .tuple ds, _, n, h => by
    cases h with
    | tup h1 h2 => exact .tup (.inl (.inl (s _ _ h1))) (AtAll.dp s ds _ (by simpa [ndD] using n) h2)
  | .dict _, _, n, _ => by simp [ndD] at n
theorem AtAll.dp (s : Sub F H) : ∀ (ds : List D) (vs : List V), ndAll ds = true → AtAll K F vs ds → L2.DpAll K H vs ds
  | [], _, _, h => by cases h; exact .nil
  | d :: ds, _, n, h => by
    simp only [ndAll, Bool.and_eq_true] at n
    cases h with
    | cons h1 h2 => exact .cons (At.dp s d _ n.1 h1) (AtAll.dp s ds _ n.2 h2)
end
mutual
theorem nd_lay : ∀ d : D, PyData.canLay0 d = true → ndD d = true
  | .none, _ => rfl
  | .bool _, _ => rfl
  | .int _, _ => rfl
  | .str _, _ => rfl
  | .list xs, h => by simp only [ndD]; exact nd_layAll xs (by simpa [PyData.canLay0] using h)
  | .tuple xs, h => by simp only [ndD]; exact nd_layAll xs (by simpa [PyData.canLay0] using h)
  | .dict _, h => by simp [PyData.canLay0] at h
theorem nd_layAll : ∀ ds : List D, PyData.canLayAll0 ds = true → ndAll ds = true
  | [], _ => rfl
  | d :: ds, h => by
    simp only [PyData.canLayAll0, Bool.and_eq_true] at h
    simp only [ndAll, Bool.and_eq_true]
    exact ⟨nd_lay d h.1, nd_layAll ds h.2⟩
end
theorem nd_shaped {d : D} (h : SeqAt.shaped d = true) : ndD d = true := nd_lay d (SeqAt.canLay_of_shaped h)
mutual
theorem nd_alike : ∀ d : D, PySem.W.alike d d = true → ndD d = true
  | .none, _ => rfl
  | .bool _, _ => rfl
  | .int _, _ => rfl
  | .str _, _ => rfl
  | .list xs, h => by simp only [ndD]; exact nd_alikeAll xs (by simpa [PySem.W.alike] using h)
  | .tuple xs, h => by simp only [ndD]; exact nd_alikeAll xs (by simpa [PySem.W.alike] using h)
  | .dict _, h => by simp [PySem.W.alike] at h
theorem nd_alikeAll : ∀ ds : List D, PySem.W.alikeAll ds ds = true → ndAll ds = true
  | [], _ => rfl
  | d :: ds, h => by
    simp only [PySem.W.alikeAll, Bool.and_eq_true] at h
    simp only [ndAll, Bool.and_eq_true]
    exact ⟨nd_alike d h.1, nd_alikeAll ds h.2⟩
end
theorem Vw.dp (s : Sub F H) {v : V} {d : D} (n : ndD d = true) (h : Vw K F H v d) : L2.Dp K H v d := by
  rcases h with h | ⟨a, vs, xs, rfl, rfl, h1, h2, _⟩
  · exact At.dp s d v n h
  · exact .lst (.of h1) (AtAll.dp s _ _ (by simpa [ndD] using n) h2)
/-- the script -/
theorem Vw.scr (s : Sub F H) {v : V} {xs : List D} (h : Vw K F H v (.dict [(.none, .list xs)])) : ∃ a vs, v = .ref a ∧ SqL K H a vs ∧ AtAll K F vs xs := by
  rcases h with h | ⟨a, vs, xs, rfl, e, _⟩
  · cases h with
    | scr h1 h2 => exact ⟨_, _, rfl, (by
        rcases h1 with h1 | h1
        · exact .inl (s.rd h1)
        · exact .inr h1), h2⟩
  · cases e
theorem Vw.list (s : Sub F H) (l : HLen F) {v : V} {xs : List D} (h : Vw K F H v (.list xs)) : ∃ a vs, v = .ref a ∧ Rd H a (.lst vs) ∧ AtAll K F vs xs ∧ xs.length ≤ sizeLine := by
  rcases h with h | ⟨a, vs, xs, rfl, e, h1, h2, h3⟩
  · cases h with
    | lst h1 h2 => exact ⟨_, _, rfl, s.rd h1, h2, by rw [← AtAll.length h2]; exact l _ _ (.inl h1)⟩
  · cases e; exact ⟨a, vs, rfl, .of h1, h2, h3⟩
theorem Vw.tup (s : Sub F H) (l : HLen F) {v : V} {xs : List D} (h : Vw K F H v (.tuple xs)) : ∃ a vs, v = .ref a ∧ H a = some (.tup vs) ∧ AtAll K F vs xs ∧ xs.length ≤ sizeLine := by
  rcases h with h | ⟨a, vs, xs, rfl, e, h1, h2, h3⟩
  · cases h with
    | tup h1 h2 => exact ⟨_, _, rfl, s _ _ h1, h2, by rw [← AtAll.length h2]; exact l _ _ (.inr (.inl h1))⟩
  · cases e
theorem Vw.int {v : V} {i : Int} (h : Vw K F H v (.int i)) : v = .int i := by
  rcases h with h | ⟨a, vs, xs, rfl, e, h1, h2, h3⟩
  · cases h; rfl
  · cases e
theorem Vw.str {v : V} {i : Str} (h : Vw K F H v (.str i)) : v = .str i := by
  rcases h with h | ⟨a, vs, xs, rfl, e, h1, h2, h3⟩
  · cases h; rfl
  · cases e
theorem Vw.bool {v : V} {i : Bool} (h : Vw K F H v (.bool i)) : v = .bl i := by
  rcases h with h | ⟨a, vs, xs, rfl, e, h1, h2, h3⟩
  · cases h; rfl
  · cases e
theorem Vw.non {v : V} (h : Vw K F H v .none) : v = .non := by
  rcases h with h | ⟨a, vs, xs, rfl, e, h1, h2, h3⟩
  · cases h; rfl
  · cases e
theorem Vw.mono (s : Sub F F') {v : V} {d : D} (k : ∀ a, H a ≠ none → H' a = H a) (h : Vw K F H v d) : Vw K F' H' v d := by
  rcases h with h | ⟨a, vs, xs, rfl, rfl, h1, h2, h3⟩
  · exact .inl (At.mono s h)
  · exact .inr ⟨a, vs, xs, rfl, rfl, by rw [k a (by rw [h1]; simp)]; exact h1, AtAll.mono s h2, h3⟩
theorem Rep.vw (P : Rep K G z F ρ σ H) {r : R} {v : V} {d : D} (h : ROk K G F H ρ σ r v) (e : vw ρ r = some d) : Vw K F H v d := by
  cases r with
  | v d' => simp [Sn.vw] at e; subst e; exact .inl h
  | nw c =>
    cases c <;> simp [Sn.vw] at e
    subst e
    obtain ⟨a, rfl, h1, h2, h3, vs, h4, h5, h6⟩ := h
    exact .inr ⟨a, vs, _, rfl, rfl, h4, h5, h6⟩
  | sl i =>
    have h : σ[i]? = some (some v) := h
    simp only [Sn.vw] at e
    split at e
    · rename_i f xs q
      cases e
      obtain ⟨a, h1, _, _, _, vs, h4, h5, h6⟩ := P.ow q
      rw [h] at h1; cases h1
      exact .inr ⟨a, vs, _, rfl, rfl, h4, h5, h6⟩
    · rename_i d' q
      cases e
      obtain ⟨v', h1, h2⟩ := P.va q
      rw [h] at h1; cases h1
      exact .inl h2
    · cases e
end Sn

namespace Sn
open PySem PySem.Spec L2
variable {K : PySem.W.Frag} {F F' H H' G : Hp} {z : Pz} {ρ ρ' : List Sl} {σ σ' : St} {W : Str → St → Hp → Prop} {α β : Type}

/-- a result, the slots as they are -/
def Evs (K : PySem.W.Frag) (G : Hp) (z : Pz) (W : Str → St → Hp → Prop) (σ : St) (F : Hp) (r : Res α) (P : α → List Sl → Hp → Hp → Prop) : Prop := match r with
  | .ok a ρ' => ∀ F' H', Sub F F' → Rep K G z F' ρ' σ H' → P a ρ' F' H'
  | .ex c ρ' => ∀ F' H', Sub F F' → Rep K G z F' ρ' σ H' → W c σ H'
  | .no => False
/-- a result, other slots -/
def EvS (K : PySem.W.Frag) (G : Hp) (z : Pz) (W : Str → St → Hp → Prop) (F : Hp) (r : Res α) (P : α → List Sl → St → Hp → Hp → Prop) : Prop := match r with
  | .ok a ρ' => ∀ F' σ' H', Sub F F' → Rep K G z F' ρ' σ' H' → P a ρ' σ' F' H'
  | .ex c ρ' => ∀ F' σ' H', Sub F F' → Rep K G z F' ρ' σ' H' → W c σ' H'
  | .no => False
theorem Evs.mono {r : Res α} {P : α → List Sl → Hp → Hp → Prop} (s : Sub F F') (h : Evs K G z W σ F r P) : Evs K G z W σ F' r P := by
  cases r with
  | ok a ρ' => exact fun F2 H2 s2 R => h F2 H2 (s.trans s2) R
  | ex c ρ' => exact fun F2 H2 s2 R => h F2 H2 (s.trans s2) R
  | no => exact h
theorem EvS.mono {r : Res α} {P : α → List Sl → St → Hp → Hp → Prop} (s : Sub F F') (h : EvS K G z W F r P) : EvS K G z W F' r P := by
  cases r with
  | ok a ρ' => exact fun F2 σ2 H2 s2 R => h F2 σ2 H2 (s.trans s2) R
  | ex c ρ' => exact fun F2 σ2 H2 s2 R => h F2 σ2 H2 (s.trans s2) R
  | no => exact h
theorem Evs.imp {r : Res α} {P P' : α → List Sl → Hp → Hp → Prop} (h : Evs K G z W σ F r P) (k : ∀ a ρ' F' H', Sub F F' → Rep K G z F' ρ' σ H' → P a ρ' F' H' → P' a ρ' F' H') : Evs K G z W σ F r P' := by
  cases r with
  | ok a ρ' => exact fun F2 H2 s2 R => k _ _ _ _ s2 R (h F2 H2 s2 R)
  | ex c ρ' => exact h
  | no => exact h
theorem EvS.imp {r : Res α} {P P' : α → List Sl → St → Hp → Hp → Prop} (h : EvS K G z W F r P) (k : ∀ a ρ' σ' F' H', Sub F F' → Rep K G z F' ρ' σ' H' → P a ρ' σ' F' H' → P' a ρ' σ' F' H') : EvS K G z W F r P' := by
  cases r with
  | ok a ρ' => exact fun F2 σ2 H2 s2 R => k _ _ _ _ _ s2 R (h F2 σ2 H2 s2 R)
  | ex c ρ' => exact h
  | no => exact h
theorem Evs.seq {r : Res α} {f : α → List Sl → Res β} {P : β → List Sl → Hp → Hp → Prop} {P1 : α → List Sl → Hp → Hp → Prop} (h : Evs K G z W σ F (bnd r f) P)
    (k : ∀ a ρ' F' H', Sub F F' → Rep K G z F' ρ' σ H' → Evs K G z W σ F' (f a ρ') P → P1 a ρ' F' H') : Evs K G z W σ F r P1 := by
  cases r with
  | ok a ρ' => exact fun F2 H2 s2 R => k _ _ _ _ s2 R (Evs.mono s2 h)
  | ex c ρ' => exact h
  | no => exact h
theorem EvS.seq {r : Res α} {f : α → List Sl → Res β} {P : β → List Sl → St → Hp → Hp → Prop} {P1 : α → List Sl → St → Hp → Hp → Prop} (h : EvS K G z W F (bnd r f) P)
    (k : ∀ a ρ' σ' F' H', Sub F F' → Rep K G z F' ρ' σ' H' → EvS K G z W F' (f a ρ') P → P1 a ρ' σ' F' H') : EvS K G z W F r P1 := by
  cases r with
  | ok a ρ' => exact fun F2 σ2 H2 s2 R => k _ _ _ _ _ s2 R (EvS.mono s2 h)
  | ex c ρ' => exact h
  | no => exact h
/-- an expression ahead of a statement -/
theorem EvS.first {r : Res α} {f : α → List Sl → Res β} {P : β → List Sl → St → Hp → Hp → Prop} {P1 : α → List Sl → Hp → Hp → Prop} (h : EvS K G z W F (bnd r f) P)
    (k : ∀ a ρ' F' H', Sub F F' → Rep K G z F' ρ' σ H' → EvS K G z W F' (f a ρ') P → P1 a ρ' F' H') : Evs K G z W σ F r P1 := by
  cases r with
  | ok a ρ' => exact fun F2 H2 s2 R => k _ _ _ _ s2 R (EvS.mono s2 h)
  | ex c ρ' => exact fun F2 H2 s2 R => h F2 σ H2 s2 R
  | no => exact h
theorem Evs.opt {o : Option α} {f : α → List Sl → Res β} {P : β → List Sl → Hp → Hp → Prop} (h : Evs K G z W σ F (bnd (Sn.opt o ρ) f) P) : ∃ a, o = some a ∧ Evs K G z W σ F (f a ρ) P := by
  cases o with
  | none => exact h.elim
  | some a => exact ⟨a, rfl, h⟩
theorem Evs.optE {o : Option α} {P : α → List Sl → Hp → Hp → Prop} (h : Evs K G z W σ F (Sn.opt o ρ) P) : ∃ a, o = some a ∧ Evs K G z W σ F (.ok a ρ : Res α) P := by
  cases o with
  | none => exact h.elim
  | some a => exact ⟨a, rfl, h⟩
theorem EvS.opt {o : Option α} {f : α → List Sl → Res β} {P : β → List Sl → St → Hp → Hp → Prop} (h : EvS K G z W F (bnd (Sn.opt o ρ) f) P) : ∃ a, o = some a ∧ EvS K G z W F (f a ρ) P := by
  cases o with
  | none => exact h.elim
  | some a => exact ⟨a, rfl, h⟩
theorem Evs.here {a : α} {P : α → List Sl → Hp → Hp → Prop} (h : Evs K G z W σ F (.ok a ρ) P) (R : Rep K G z F ρ σ H) : P a ρ F H := h F H .refl R
theorem EvS.here {a : α} {P : α → List Sl → St → Hp → Hp → Prop} (h : EvS K G z W F (.ok a ρ) P) (R : Rep K G z F ρ σ H) : P a ρ σ F H := h F σ H .refl R

def OOk (K : PySem.W.Frag) (F : Hp) (σ : St) : R → V → Prop
  | .v d, v => At K F v d
  | .sl i, v => σ[i]? = some (some v)
  | .nw _, _ => False
theorem OOk.mono (s : Sub F F') {r : R} {v : V} (h : OOk K F σ r v) : OOk K F' σ r v := by
  cases r with
  | v d => exact At.mono s h
  | sl i => exact h
  | nw c => exact h
theorem OOk.rok {r : R} {v : V} (h : OOk K F σ r v) : ROk K G F H ρ σ r v := by
  cases r with
  | v d => exact h
  | sl i => exact h
  | nw c => exact h.elim
theorem Rep.ovw (P : Rep K G z F ρ σ H) {r : R} {v : V} {d : D} (h : OOk K F σ r v) (e : Sn.vw ρ r = some d) : Vw K F H v d := P.vw h.rok e
/-- a new list of one's own is let go: from now on it is data -/
theorem Rep.letgo (P : Rep K G z F ρ σ H) {a : Addr} {xs : List D} (hF : F a = none) (hG : G a = none) (hO : ∀ i, ¬ Own ρ σ i a) (h : COk K F H a (.l xs)) :
    ∃ F', Sub F F' ∧ Rep K G z F' ρ σ H ∧ At K F' (.ref a) (.list xs) := by
  obtain ⟨vs, h1, h2, h3⟩ := h
  have s : Sub F (upd F a (.lst vs)) := .upd hF
  refine ⟨upd F a (.lst vs), s, ⟨P.len, fun b o e => ?_, P.gh, fun b e => ?_, P.hl.upd (fun ys e => ?_) (fun _ _ e => by cases e), fun i sl e => ?_, P.ap, P.gt⟩, .lst (.inl upd_same) (AtAll.mono s h2)⟩
  · by_cases q : b = a
    · subst q; rw [upd_same] at e; cases e; exact h1
    · rw [upd_ne q] at e; exact P.fh _ _ e
  · by_cases q : b = a
    · subst q; exact hG
    · rw [upd_ne q] at e; exact P.fg _ e
  · rcases e with e | e <;> cases e
    rw [AtAll.length h2]; exact h3
  · obtain ⟨o, q1, q2⟩ := P.sl i sl e
    refine ⟨o, q1, ?_⟩
    cases sl with
    | un => trivial
    | v d => obtain ⟨v, q3, q4⟩ := q2; exact ⟨v, q3, At.mono s q4⟩
    | ow f c =>
      obtain ⟨b, q3, q4, q5, q6, q7⟩ := q2
      have nb : b ≠ a := fun z => hO i ⟨f, c, e, by rw [q1, q3, z]⟩
      exact ⟨b, q3, q4, by rw [upd_ne nb]; exact q5, q6, COk.mono s rfl q7⟩
    | lk => exact q2
theorem Rep.opr (P : Rep K G z F ρ σ H) {r : R} {v : V} {f : R → List Sl → Res β} {Q : β → List Sl → Hp → Hp → Prop} (h : ROk K G F H ρ σ r v) (e : Evs K G z W σ F (bnd (Sn.opr r ρ) f) Q) :
    ∃ r' F', Sub F F' ∧ Rep K G z F' ρ σ H ∧ OOk K F' σ r' v ∧ Evs K G z W σ F' (f r' ρ) Q := by
  cases r with
  | v d => exact ⟨.v d, F, .refl, P, h, e⟩
  | sl i => exact ⟨.sl i, F, .refl, P, h, e⟩
  | nw c =>
    cases c with
    | l xs =>
      obtain ⟨a, rfl, h1, h2, h3, h4⟩ := h
      obtain ⟨F', s, P', d⟩ := P.letgo h1 h2 h3 h4
      exact ⟨.v (.list xs), F', s, P', d, Evs.mono s e⟩
    | t kvs => exact e.elim
    | k kvs => exact e.elim
theorem Own.set_v {i j : Nat} {d : D} {a : Addr} (h : Own (ρ.set i (.v d)) σ j a) : j ≠ i ∧ Own ρ σ j a := by
  obtain ⟨f, c, e, q⟩ := h
  by_cases z : i = j
  · subst z
    rw [List.getElem?_set] at e
    simp at e
  · rw [List.getElem?_set_ne z] at e
    exact ⟨fun y => z y.symm, f, c, e, q⟩
theorem Own.set_un {i j : Nat} {s : Sl} (hs : ∀ f c, s ≠ .ow f c) {a : Addr} (h : Own (ρ.set i s) σ j a) : j ≠ i ∧ Own ρ σ j a := by
  obtain ⟨f, c, e, q⟩ := h
  by_cases z : i = j
  · subst z
    rw [List.getElem?_set] at e
    by_cases l : i < ρ.length
    · simp [l] at e; exact absurd e (hs _ _)
    · simp [l] at e
  · rw [List.getElem?_set_ne z] at e
    exact ⟨fun y => z y.symm, f, c, e, q⟩
/-- a slot's mark is changed to one that owns nothing -/
theorem Rep.mark (P : Rep K G z F ρ σ H) {i : Nat} {s s' : Sl} (e : ρ[i]? = some s) (hs : ∀ f c, s' ≠ .ow f c) (h : ∀ o, σ[i]? = some o → SlOk K G (z i) F H o s') : Rep K G z F (ρ.set i s') σ H := by
  refine ⟨by simpa using P.len, P.fh, P.gh, P.fg, P.hl, fun j t q => ?_, fun j k a h1 h2 => P.ap j k a (h1.set_un hs).2 (h2.set_un hs).2, P.gt⟩
  by_cases c : i = j
  · subst c
    have l : i < ρ.length := (List.getElem?_eq_some_iff.mp e).1
    rw [List.getElem?_set_self l] at q
    cases q
    obtain ⟨o, q1, _⟩ := P.sl i s e
    exact ⟨o, q1, h o q1⟩
  · rw [List.getElem?_set_ne c] at q
    exact P.sl j t q
theorem Rep.frz (P : Rep K G z F ρ σ H) {r : R} {v : V} {f : D → List Sl → Res β} {Q : β → List Sl → Hp → Hp → Prop} (h : ROk K G F H ρ σ r v) (e : Evs K G z W σ F (bnd (frz r ρ) f) Q) :
    ∃ d ρ' F', Sub F F' ∧ Rep K G z F' ρ' σ H ∧ At K F' v d ∧ Evs K G z W σ F' (f d ρ') Q := by
  cases r with
  | v d => exact ⟨_, ρ, F, .refl, P, h, e⟩
  | nw c =>
    cases c with
    | l xs =>
      obtain ⟨a, rfl, h1, h2, h3, h4⟩ := h
      obtain ⟨F', s, P', d⟩ := P.letgo h1 h2 h3 h4
      exact ⟨.list xs, ρ, F', s, P', d, Evs.mono s e⟩
    | t kvs => exact e.elim
    | k kvs => exact e.elim
  | sl i =>
    have h : σ[i]? = some (some v) := h
    unfold Sn.frz at e
    dsimp only at e
    split at e
    · rename_i xs q
      obtain ⟨a, q1, _, q3, q4, q5⟩ := P.ow q
      rw [h] at q1; cases q1
      -- the slot is given up first
      have P1 : Rep K G z F (ρ.set i .un) σ H := P.mark (s' := .un) q (fun _ _ e => by cases e) fun _ _ => trivial
      have hO : ∀ j, ¬ Own (ρ.set i .un) σ j a := fun j o => by
        obtain ⟨n, o'⟩ := o.set_un (fun _ _ e => by cases e)
        exact n (P.ap j i a o' ⟨_, _, q, h⟩)
      obtain ⟨F', s, P', d⟩ := P1.letgo q3 q4 hO q5
      have l : i < (ρ.set i Sl.un).length := by simpa using (List.getElem?_eq_some_iff.mp q).1
      have P2 : Rep K G z F' ((ρ.set i .un).set i (.v (.list xs))) σ H := P'.mark (s := .un) (by rw [List.getElem?_set_self (by simpa using l)]) (fun _ _ e => by cases e) fun o q => ⟨_, by rw [h] at q; cases q; rfl, d⟩
      rw [List.set_set] at P2
      exact ⟨.list xs, _, F', s, P2, d, Evs.mono s e⟩
    · rename_i d q
      obtain ⟨v', q1, q2⟩ := P.va q
      rw [h] at q1; cases q1
      exact ⟨d, ρ, F, .refl, P, q2, e⟩
    · exact e.elim
theorem Rep.frzE (P : Rep K G z F ρ σ H) {r : R} {v : V} {Q : D → List Sl → Hp → Hp → Prop} (h : ROk K G F H ρ σ r v) (e : Evs K G z W σ F (Sn.frz r ρ) Q) :
    ∃ d ρ' F', Sub F F' ∧ Rep K G z F' ρ' σ H ∧ At K F' v d ∧ Q d ρ' F' H := by
  have e' : Evs K G z W σ F (bnd (Sn.frz r ρ) fun d ρ => .ok d ρ) Q := by
    cases q : Sn.frz r ρ <;> rw [q] at e <;> exact e
  obtain ⟨d, ρ', F', s, P', h', e2⟩ := P.frz h e'
  exact ⟨d, ρ', F', s, P', h', Evs.here e2 P'⟩
/-- the same ahead of a statement -/
theorem Rep.frzS (P : Rep K G z F ρ σ H) {r : R} {v : V} {f : D → List Sl → Res β} {Q : β → List Sl → St → Hp → Hp → Prop} (h : ROk K G F H ρ σ r v) (e : EvS K G z W F (bnd (Sn.frz r ρ) f) Q) :
    ∃ d ρ' F', Sub F F' ∧ Rep K G z F' ρ' σ H ∧ At K F' v d ∧ EvS K G z W F' (f d ρ') Q := by
  have e' : Evs K G z W σ F (Sn.frz r ρ) (fun d ρ' F' H' => EvS K G z W F' (f d ρ') Q) := EvS.first e fun _ _ _ _ _ _ h => h
  exact P.frzE h e'
theorem toB_some {r : R} {f : Bool → List Sl → Res β} {Q : β → List Sl → Hp → Hp → Prop} (e : Evs K G z W σ F (bnd (toB r ρ) f) Q) : ∃ b, r = .v (.bool b) ∧ Evs K G z W σ F (f b ρ) Q := by
  unfold toB at e
  split at e
  · exact ⟨_, rfl, e⟩
  · exact e.elim
theorem toB_someE {r : R} {Q : Bool → List Sl → Hp → Hp → Prop} (e : Evs K G z W σ F (toB r ρ) Q) : ∃ b, r = .v (.bool b) ∧ Evs K G z W σ F (.ok b ρ : Res Bool) Q := by
  unfold toB at e
  split at e
  · exact ⟨_, rfl, e⟩
  · exact e.elim
theorem toB_someS {r : R} {f : Bool → List Sl → Res β} {Q : β → List Sl → St → Hp → Hp → Prop} (e : EvS K G z W F (bnd (toB r ρ) f) Q) : ∃ b, r = .v (.bool b) ∧ EvS K G z W F (f b ρ) Q := by
  unfold toB at e
  split at e
  · exact ⟨_, rfl, e⟩
  · exact e.elim

/-- what may stand in a slot behind a store -/
def StOk (K : PySem.W.Frag) (G F H : Hp) (ρ : List Sl) (σ : St) (i : Nat) (v : V) : Sl → Prop
  | .v d => At K F v d
  | .ow false c => ∃ a, v = .ref a ∧ F a = none ∧ G a = none ∧ (∀ j, j ≠ i → ¬ Own ρ σ j a) ∧ COk K F H a c
  | _ => False
theorem Rep.store (P : Rep K G z F ρ σ H) {i : Nat} {s : Sl} {v : V} (l : i < ρ.length) (h : StOk K G F H ρ σ i v s) : Rep K G z F (ρ.set i s) (σ.set i (some v)) H := by
  have lσ : i < σ.length := by rw [← P.len]; exact l
  have ow : ∀ j a, j ≠ i → Own (ρ.set i s) (σ.set i (some v)) j a → Own ρ σ j a := fun j a n o => by
    obtain ⟨f, c, e, q⟩ := o
    rw [List.getElem?_set_ne (Ne.symm n)] at e q
    exact ⟨f, c, e, q⟩
  have oi : ∀ a, Own (ρ.set i s) (σ.set i (some v)) i a → ∃ c, s = .ow false c ∧ v = .ref a := fun a o => by
    obtain ⟨f, c, e, q⟩ := o
    rw [List.getElem?_set_self l] at e
    rw [List.getElem?_set_self lσ] at q
    cases e; cases q
    cases f with
    | false => exact ⟨c, rfl, rfl⟩
    | true => exact h.elim
  refine ⟨by simpa using P.len, P.fh, P.gh, P.fg, P.hl, fun j t q => ?_, fun j k a h1 h2 => ?_, P.gt⟩
  · by_cases c : i = j
    · subst c
      rw [List.getElem?_set_self l] at q
      cases q
      rw [List.getElem?_set_self lσ]
      refine ⟨_, rfl, ?_⟩
      cases s with
      | un => exact h.elim
      | v d => exact ⟨v, rfl, h⟩
      | ow f c =>
        cases f with
        | false => obtain ⟨a, rfl, h1, h2, _, h4⟩ := h; exact ⟨a, rfl, (by intro e; cases e), h1, h2, h4⟩
        | true => exact h.elim
      | lk => exact h.elim
    · rw [List.getElem?_set_ne c] at q ⊢
      exact P.sl j t q
  · have key : ∀ k, k ≠ i → Own (ρ.set i s) (σ.set i (some v)) i a → Own (ρ.set i s) (σ.set i (some v)) k a → False := fun k n o1 o2 => by
      obtain ⟨c, rfl, rfl⟩ := oi a o1
      obtain ⟨b, e, _, _, h3, _⟩ := h
      cases e
      exact h3 k n (ow k a n o2)
    by_cases c : j = i
    · by_cases d : k = i
      · rw [c, d]
      · subst c; exact (key k d h1 h2).elim
    · by_cases d : k = i
      · subst d; exact (key j c h2 h1).elim
      · exact P.ap j k a (ow j a c h1) (ow k a d h2)
theorem setS_ok {i : Nat} {s : Sl} {a : Unit} (h : setS i s ρ = .ok a ρ') : ρ' = ρ.set i s ∧ i < ρ.length := by
  unfold setS at h
  split at h
  · cases h
  · cases h
  · rename_i s0 _ _ e
    cases h
    exact ⟨rfl, (List.getElem?_eq_some_iff.mp e).1⟩
  · cases h
theorem setS_ex {i : Nat} {s : Sl} {c : Str} : setS i s ρ ≠ .ex c ρ' := by
  unfold setS
  split <;> intro h <;> cases h
/-- a result goes into a slot -/
theorem Rep.setR (P : Rep K G z F ρ σ H) {i : Nat} {r : R} {v : V} (h : ROk K G F H ρ σ r v) {a : Unit} (e : Sn.setR i r ρ = .ok a ρ') : Rep K G z F ρ' (σ.set i (some v)) H := by
  cases r with
  | v d =>
    obtain ⟨rfl, l⟩ := setS_ok e
    exact P.store l (show StOk K G F H ρ σ i v (.v d) from h)
  | nw c =>
    obtain ⟨rfl, l⟩ := setS_ok e
    obtain ⟨a, rfl, h1, h2, h3, h4⟩ := h
    exact P.store l (show StOk K G F H ρ σ i _ (.ow false c) from ⟨a, rfl, h1, h2, fun j _ => h3 j, h4⟩)
  | sl j =>
    have h : σ[j]? = some (some v) := h
    unfold Sn.setR at e
    dsimp only at e
    split at e
    · rename_i c q
      obtain ⟨b, q1, _, q3, q4, q5⟩ := P.ow q
      rw [h] at q1; cases q1
      obtain ⟨rfl, l⟩ := setS_ok e
      have P1 : Rep K G z F (ρ.set j .un) σ H := P.mark (s' := .un) q (fun _ _ e => by cases e) fun _ _ => trivial
      refine P1.store l (show StOk K G F H _ σ i _ (.ow false c) from ⟨b, rfl, q3, q4, fun k _ o => ?_, q5⟩)
      obtain ⟨n, o'⟩ := o.set_un (fun _ _ e => by cases e)
      exact n (P.ap k j b o' ⟨_, _, q, h⟩)
    · rename_i d q
      obtain ⟨b, q1, q2⟩ := P.va q
      rw [h] at q1; cases q1
      obtain ⟨rfl, l⟩ := setS_ok e
      exact P.store l (show StOk K G F H ρ σ i v (.v d) from q2)
    · cases e
theorem setR_ex {i : Nat} {r : R} {c : Str} : setR i r ρ ≠ .ex c ρ' := by
  unfold setR
  split
  · exact setS_ex
  · exact setS_ex
  · split
    · exact setS_ex
    · exact setS_ex
    · intro h; cases h

/-- tuples that stand are data, too -/
def Absb (F H F' : Hp) : Prop := Sub F F' ∧ Sub F' H ∧ HLen F' ∧ ∀ a, F' a ≠ none → F a ≠ none ∨ ∃ xs, H a = some (.tup xs)
theorem cok_notup {a : Addr} : ∀ {c : C}, COk K F H a c → ∀ xs : List V, H a ≠ some (HO.tup xs)
  | .l xs, ⟨vs, h1, _⟩, ys, e => by rw [h1] at e; cases e
  | .t kvs, ⟨ws, h1, _⟩, ys, e => by rw [h1] at e; cases e
  | .k kvs, ⟨ws, h1, _⟩, ys, e => by rw [h1] at e; cases e
theorem Rep.absb (P : Rep K G z F ρ σ H) (A : Absb F H F') : Rep K G z F' ρ σ H := by
  obtain ⟨s, fh, hl, nw⟩ := A
  refine ⟨P.len, fh, P.gh, fun a h => ?_, hl, fun i s' e => ?_, P.ap, P.gt⟩
  · rcases nw a h with h | ⟨xs, h⟩
    · exact P.fg a h
    · cases w : G a with
      | none => rfl
      | some o =>
        have q := P.gh a o w
        rw [h] at q; cases q
        exact absurd w (P.gt a xs)
  · obtain ⟨o, h1, h2⟩ := P.sl i s' e
    refine ⟨o, h1, ?_⟩
    cases s' with
    | un => trivial
    | v d => obtain ⟨v, h3, h4⟩ := h2; exact ⟨v, h3, At.mono s h4⟩
    | ow f c =>
      obtain ⟨a, h3, h4, h5, h6, h7⟩ := h2
      refine ⟨a, h3, h4, ?_, h6, COk.mono s rfl h7⟩
      cases q : F' a with
      | none => rfl
      | some u =>
        rcases nw a (by rw [q]; simp) with h | ⟨xs, h⟩
        · exact absurd h5 h
        · exact absurd h (cok_notup h7 xs)
    | lk => exact h2
/-- an expression -/
def rdE (K : PySem.W.Frag) (W : Str → St → Hp → Prop) (Φ : Nat → List D → Out) (x : Ex) : TE := fun σ H Q => ∃ G z F ρ, Rep K G z F ρ σ H ∧ Evs K G z W σ F (evE Φ x ρ) fun r ρ' F' H' => ∀ v, ROk K G F' H' ρ' σ r v → Q v H'
/-- a test -/
def rdT (K : PySem.W.Frag) (W : Str → St → Hp → Prop) (Φ : Nat → List D → Out) (x : Ex) : TT := fun σ H Q => ∃ G z F ρ, Rep K G z F ρ σ H ∧ Evs K G z W σ F (bnd (evE Φ x ρ) toB) fun b _ _ H' => Q b H'
/-- arguments -/
def rdA (K : PySem.W.Frag) (W : Str → St → Hp → Prop) (Φ : Nat → List D → Out) (es : Exs) : TA := fun σ H Q => ∃ G z F ρ, Rep K G z F ρ σ H ∧ Evs K G z W σ F (evEs Φ es ρ) fun ds ρ' F' H' => ∀ vs, AtAll K F' vs ds → Q vs H'
/-- an iterator over these items -/
def JOk (K : PySem.W.Frag) (F : Hp) (l : List D) (J : L2.It) : Prop := l.length ≤ sizeLine ∧ ∀ i F' H, Sub F F' → Sub F' H → HLen F' →
  (∀ d, l[i]? = some d → J.go i H ∧ ∀ x H', J.yld i H x H' → ∃ F2, Stp F' H F2 H' ∧ At K F2 x d) ∧ (l.length = i → J.stop i H)
def rdI (K : PySem.W.Frag) (W : Str → St → Hp → Prop) (Φ : Nat → List D → Out) (it : It) : TI := fun σ H R => ∃ G z F ρ, Rep K G z F ρ σ H ∧ Evs K G z W σ F (evI Φ it ρ) fun l ρ' F' H' => ∀ J, JOk K F' l J → R J H'
/-- a statement -/
def rdS (K : PySem.W.Frag) (W : Str → St → Hp → Prop) (Φ : Nat → List D → Out) (s : Sx) : TS := fun D σ H => ∃ G z F ρ, Rep K G z F ρ σ H ∧ EvS K G z W F (evS Φ s ρ) fun f ρ' σ' F' H' => match f with
  | .nx => D.nx σ' H'
  | .bk => D.bk σ' H'
  | .ct => D.ct σ' H'
  | .rt r => ∀ v, ROk K G F' H' ρ' σ' r v → D.rt v H'
def slots : Tg → List Nat
  | .nm i => [i]
  | .tp c => slots c
  | .nl => []
  | .cs t r => slots t ++ slots r
/-- a target -/
def rdG (K : PySem.W.Frag) (t : Tg) : TG := fun v σ H Q => ∃ G z F ρ d ρ', Rep K G z F ρ σ H ∧ At K F v d ∧ asg t d ρ = .ok () ρ' ∧
  ∀ σ', σ'.length = σ.length → (∀ j, j ∉ slots t → σ'[j]? = σ[j]?) → Rep K G z F ρ' σ' H → Q σ' H
theorem PE.imp {X : Cx} {e : Expr} {t t' : TE} (h : PE X e t) (i : ∀ σ H Q, t' σ H Q → t σ H Q) : PE X e t' := ⟨fun pins s σ H Q I q => h.run pins s σ H Q I (i σ H Q q)⟩
theorem PT.imp {X : Cx} {e : Expr} {t t' : TT} (h : PT X e t) (i : ∀ σ H Q, t' σ H Q → t σ H Q) : PT X e t' := ⟨fun pins s σ H Q I q => h.run pins s σ H Q I (i σ H Q q)⟩
theorem PW.imp {X : Cx} {e : Expr} {t t' : TT} (h : PW X e t) (i : ∀ σ H Q, t' σ H Q → t σ H Q) : PW X e t' := ⟨fun wh pins s σ H Q I q => h.run wh pins s σ H Q I (i σ H Q q)⟩
theorem PA.imp {X : Cx} {es : List Expr} {t t' : TA} (h : PA X es t) (i : ∀ σ H Q, t' σ H Q → t σ H Q) : PA X es t' := ⟨fun pos pins s σ H Q I q => h.run pos pins s σ H Q I (i σ H Q q)⟩
theorem PI.imp {X : Cx} {tg e : Expr} {t t' : TI} (h : PI X tg e t) (i : ∀ σ H Q, t' σ H Q → t σ H Q) : PI X tg e t' := ⟨fun pins s σ H Q I q => h.run pins s σ H Q I (i σ H Q q)⟩
theorem PS.imp {X : Cx} {st : Stmt} {t t' : TS} (h : PS X st t) (i : ∀ D σ H, t' D σ H → t D σ H) : PS X st t' := ⟨fun pins s σ H D I q => h.run pins s σ H D I (i D σ H q)⟩
theorem PSs.imp {X : Cx} {st : List Stmt} {t t' : TS} (h : PSs X st t) (i : ∀ D σ H, t' D σ H → t D σ H) : PSs X st t' := ⟨fun pins s σ H D I q => h.run pins s σ H D I (i D σ H q)⟩
theorem PG.imp {X : Cx} {e : Expr} {t t' : TG} (h : PG X e t) (i : ∀ v σ H Q, t' v σ H Q → t v σ H Q) : PG X e t' := ⟨fun pins s σ H v u Q I r q => h.run pins s σ H v u Q I r (i v σ H Q q)⟩
end Sn

namespace Sn
open PySem PySem.Spec L2
variable {K : PySem.W.Frag} {F F' H H' G : Hp} {z : Pz} {ρ ρ' : List Sl} {σ σ' : St}

/-- a new result -/
def RNw (K : PySem.W.Frag) (F H F' H' : Hp) : R → V → Prop
  | .v d, v => At K F' v d
  | .nw c, v => ∃ a, v = .ref a ∧ H a = none ∧ F' a = none ∧ COk K F' H' a c
  | .sl _, _ => False
def QOk (K : PySem.W.Frag) (F H : Hp) (r : R) (Q : VK) : Prop := ∀ F' H' v, Stp F H F' H' → RNw K F H F' H' r v → Q v H'
theorem Rep.rnw (P : Rep K G z F ρ σ H) (S : Stp F H F' H') {r : R} {v : V} (h : RNw K F H F' H' r v) : ROk K G F' H' ρ σ r v := by
  cases r with
  | v d => exact h
  | nw c =>
    obtain ⟨a, e, h1, h2, h3⟩ := h
    exact ⟨a, e, h2, P.gh.none h1, fun i o => (P.own_none o).2.2 h1, h3⟩
  | sl i => exact h.elim
section
variable (s : Sub F H) (l : HLen F) {Q : VK}
include s l
theorem QOk.val {d : D} {v : V} (q : QOk K F H (.v d) Q) (h : At K F v d) : Q v H := q F H v (.refl s l) h
theorem QOk.tup {ds : List D} {vs : List V} (q : QOk K F H (.v (.tuple ds)) Q) (h : AtAll K F vs ds) (z : ds.length ≤ sizeLine) : ∀ p, H p = none → Q (.ref p) (upd H p (.tup vs)) := fun p n => by
  have st : Stp F H (upd F p (.tup vs)) (upd H p (.tup vs)) := .tup s l n (by rw [h.length]; exact z)
  exact q _ _ _ st (.tup upd_same (AtAll.mono st.ff h))
theorem QOk.lst {ds : List D} {vs : List V} (q : QOk K F H (.nw (.l ds)) Q) (h : AtAll K F vs ds) (z : ds.length ≤ sizeLine) : ∀ p, H p = none → Q (.ref p) (upd H p (.lst vs)) := fun p n => by
  have st : Stp F H F (upd H p (.lst vs)) := .new s l n
  exact q _ _ _ st ⟨p, rfl, n, s.none n, vs, upd_same, h, z⟩
end

theorem rd_list {X : Cx} {pins : List (Addr × Obj)} {s : Shared} {a : Addr} {xs : List V} (I : Inv X pins σ H s) (h : Rd H a (.lst xs)) :
    xs.length ≤ sizeLine ∧ ∃ (its : List Value) (n : Nat), Vals xs its ∧ s.heap.get? a = some { cls := .type "list", data := .seq its.toArray n } := h.ok I.hok
/-- list + list -/
def rCatL : R2 := fun x y H Q => ∃ l b xs zs, x = .ref l ∧ y = .ref b ∧ Rd H l (.lst xs) ∧ Rd H b (.lst zs) ∧ xs.length + zs.length ≤ sizeLine ∧ ∀ p, H p = none → Q (.ref p) (upd H p (.lst (xs ++ zs)))
theorem op_catL {X : Cx} : OpR X (binaryOp .Add) rCatL := by
  intro pins s σ H x y v u Q I rx ry h
  obtain ⟨l, b, xs, zs, rfl, rfl, hH, hB, hz, q⟩ := h
  cases rx
  cases ry
  obtain ⟨z, its, n, r, e⟩ := rd_list I hH
  obtain ⟨z2, its2, n2, r2, e2⟩ := rd_list I hB
  have hl := r.length
  have hl2 := r2.length
  refine PySem.P.add_list e e2 ?_ (by rw [List.size_toArray, List.size_toArray]; omega)
  have ea : its.toArray ++ its2.toArray = (its ++ its2).toArray := by simp
  rw [ea]
  exact ⟨.ref _, _, I.lnew (t' := s.toks) (r.append r2) (by rw [List.length_append]; omega), rfl, q _ I.fresh⟩
/-- list * int -/
def rRepL : R2 := fun x y H Q => ∃ l k xs, x = .ref l ∧ y = .int k ∧ Rd H l (.lst xs) ∧ -(2 ^ 63) ≤ k ∧ k < 2 ^ 63 ∧ xs.length * k.toNat ≤ sizeLine ∧
  ∀ p, H p = none → Q (.ref p) (upd H p (.lst (List.replicate k.toNat xs).flatten))
theorem op_repL {X : Cx} : OpR X (binaryOp .Mult) rRepL := by
  intro pins s σ H x y v u Q I rx ry h
  obtain ⟨l, k, xs, rfl, rfl, hH, h1, h2, hz, q⟩ := h
  obtain ⟨t, rfl⟩ := ry
  cases rx
  obtain ⟨z, its, n, r, e⟩ := rd_list I hH
  have big : (sizeLine : Nat) ≤ (2 ^ 63 - 1) / 8 := by decide
  have sz : its.toArray.size * k.toNat ≤ sizeLine := by
    rw [List.size_toArray, ← r.length]; exact hz
  have c1 : ¬ its.toArray.size * k.toNat > (2 ^ 63 - 1) / 8 := by omega
  have c2 : ¬ (!Builtin.List.listFitsIndex k) = true := by rw [fitsIndex_both h1 h2]; simp
  have c3 : ¬ Builtin.List.listTooLong (its.toArray.size * k.toNat) = true := by rw [notLongL sz]; simp
  have fl : ∀ m : Nat, List.foldl (fun a b => a ++ b) #[] (List.replicate m its.toArray) = (List.replicate m its).flatten.toArray := fun m => by
    have q := foldl_rep its m []
    simpa using q
  have new : List.foldl (fun a b => a ++ b) #[] (List.replicate (if its.toArray.isEmpty = true then 0 else k.toNat) its.toArray) = (List.replicate k.toNat its).flatten.toArray := by
    rw [fl]
    cases its <;> simp
  refine wpAny_binaryOp_repeat_ref (U := "int") (T := "list") (by decide) ⟨_, e, rfl⟩ (fun u => typeIs_int u k t) noFill_list_mul F.fills_int_mul F.slot_int_rmul repeat_list F.slot_int_index.lookup ?_
  refine call_meets F.slot_int_rmul (typeIs_int s k t) F.entry_int_rmul (F.args_int_rmul_2 _ _) (int___rmul___int_list k t l its.toArray n) ⟨e, rfl, ⟨_, e, rfl⟩, ?_⟩
  refine call_meets F.slot_list_mul ⟨_, e, rfl⟩ F.entry_list_mul (F.args_list_mul_2 _ _) (AutoListH.list___mul___list_int_3 l its.toArray n k t c2 c1 c3) ⟨e, ?_⟩
  rw [new]
  exact ⟨.ref _, _, I.lnew (t' := s.toks) (r.rep k.toNat) (by rw [PyProof.Rows.lm_len_rep_flat, Nat.mul_comm]; exact hz), rfl, q _ I.fresh⟩
/-- a op b, by data -/
def rBin (K : PySem.W.Frag) (o : Bop) : R2 := fun x y H Q => ∃ F dx dy r, Sub F H ∧ HLen F ∧ Vw K F H x dx ∧ Vw K F H y dy ∧ binD o dx dy = some r ∧ QOk K F H r Q
def opO : Bop → Operator
  | .add => .Add | .sub => .Sub | .mul => .Mult | .fdiv => .FloorDiv | .mod => .Mod | .pow => .Pow
theorem mulOk_ok {i j : Int} (h : mulOk i j = true) : CMul i j ∨ CMulW i j := by
  unfold mulOk at h
  simp only [Bool.or_eq_true, Bool.and_eq_true, decide_eq_true_eq] at h
  rcases h with (h | h) | h
  · exact .inl (.inl h)
  · exact .inl (.inr h)
  · exact .inr (wide_mul h.1 h.2 (by decide) (by decide) (by decide))
theorem divOk_ok {j : Int} (i : Int) (h : divOk j = true) : CDivW i j := by
  unfold divOk at h
  simp only [Bool.or_eq_true, Bool.and_eq_true, decide_eq_true_eq] at h
  obtain ⟨h0, h⟩ := h
  refine wide_div (b := 8000) h0 ?_ (by decide) (by decide)
  rcases h with h | h
  · have : j.natAbs < 1073741824 := by omega
    refine Nat.lt_of_lt_of_le this ?_
    exact Nat.le_trans (show 1073741824 ≤ 2 ^ 30 by decide) (Nat.pow_le_pow_right (by decide) (by decide))
  · have e : ((2 : Int) ^ 8000).toNat = 2 ^ 8000 := by
      rw [Int.toNat_pow_of_nonneg (by decide)]; rfl
    omega
theorem op_bin {X : Cx} (o : Bop) : OpR X (binaryOp (opO o)) (rBin X.K o) := by
  intro pins s σ H x y v u Q I rx ry h
  obtain ⟨F, dx, dy, r, sb, hl, hx, hy, hb, q⟩ := h
  unfold binD at hb
  split at hb
  · cases hb
    cases hx.int; cases hy.int
    exact op_add pins s σ H _ _ v u Q I rx ry ⟨_, _, rfl, rfl, q.val sb hl (.int _)⟩
  · split at hb
    · rename_i xs ys hle
      cases hb
      obtain ⟨a, vs, rfl, ha, ea, la⟩ := hx.list sb hl
      obtain ⟨b, us, rfl, hb, eb, lb⟩ := hy.list sb hl
      exact op_catL pins s σ H _ _ v u Q I rx ry ⟨a, b, vs, us, rfl, rfl, ha, hb, by rw [ea.length, eb.length]; exact hle, q.lst sb hl (ea.append eb) (by rw [List.length_append]; exact hle)⟩
    · cases hb
  · split at hb
    · rename_i xs ys hle
      cases hb
      obtain ⟨a, vs, rfl, ha, ea, la⟩ := hx.tup sb hl
      obtain ⟨b, us, rfl, hb, eb, lb⟩ := hy.tup sb hl
      have gx : At X.K F (.ref a) (.tuple xs) := by
        rcases hx with h | ⟨_, _, _, _, e, _⟩
        · exact h
        · cases e
      have gy : At X.K F (.ref b) (.tuple ys) := by
        rcases hy with h | ⟨_, _, _, _, e, _⟩
        · exact h
        · cases e
      refine op_catA pins s σ H _ _ v u Q I rx ry ⟨a, b, vs, us, rfl, rfl, .of ha, .of hb, by rw [ea.length, eb.length]; exact hle, fun e => ?_, fun e1 e2 => ?_, fun e1 e2 => q.tup sb hl (ea.append eb) (by rw [List.length_append]; exact hle)⟩
      · subst e
        cases xs with
        | nil => exact q.val sb hl gy
        | cons x xs => exact nomatch ea
      · subst e2
        cases ys with
        | nil => rw [List.append_nil] at q; exact q.val sb hl gx
        | cons y ys => exact nomatch eb
    · cases hb
  · split at hb
    · rename_i xs ys hle
      cases hb
      cases hx.str; cases hy.str
      exact op_add_str pins s σ H _ _ v u Q I rx ry ⟨_, _, rfl, rfl, hle, q.val sb hl (.str _)⟩
    · cases hb
  · cases hb
    cases hx.int; cases hy.int
    exact op_sub pins s σ H _ _ v u Q I rx ry ⟨_, _, rfl, rfl, q.val sb hl (.int _)⟩
  · split at hb
    · rename_i i j hm
      cases hb
      cases hx.int; cases hy.int
      rcases mulOk_ok hm with h | h
      · exact op_mul pins s σ H _ _ v u Q I rx ry ⟨_, _, rfl, rfl, h, q.val sb hl (.int _)⟩
      · exact op_mulW pins s σ H _ _ v u Q I rx ry ⟨_, _, rfl, rfl, h, q.val sb hl (.int _)⟩
    · cases hb
  · split at hb
    · rename_i xs k hm
      cases hb
      simp only [Bool.and_eq_true, decide_eq_true_eq] at hm
      obtain ⟨h1, h2, h3⟩ := hm
      cases hy.int
      obtain ⟨a, vs, rfl, ha, ea, la⟩ := hx.list sb hl
      have ln : (List.replicate k.toNat xs).flatten.length = xs.length * k.toNat := by simp [List.length_flatten, Nat.mul_comm]
      exact op_repL pins s σ H _ _ v u Q I rx ry ⟨a, k, vs, rfl, rfl, ha, h1, h2, by rw [ea.length]; exact h3, q.lst sb hl (ea.replicate _) (by rw [ln]; exact h3)⟩
    · cases hb
  · split at hb
    · rename_i xs k hm
      cases hb
      simp only [Bool.and_eq_true, decide_eq_true_eq] at hm
      obtain ⟨h0, h1, h2, h3⟩ := hm
      cases hy.int
      obtain ⟨a, vs, rfl, ha, ea, la⟩ := hx.tup sb hl
      have ln : (List.replicate k.toNat xs).flatten.length = xs.length * k.toNat := by simp [List.length_flatten, Nat.mul_comm]
      have hk : k.toNat ≤ 1000 := by omega
      have hsl : (1000 * 1000 : Nat) ≤ sizeLine := by decide
      refine op_repT pins s σ H _ _ v u Q I rx ry ⟨a, k, vs, rfl, rfl, .of ha, ?_, h1, h2, by rw [ea.length]; exact h3, q.tup sb hl (ea.replicate _) (by rw [ln]; exact Nat.le_trans (Nat.mul_le_mul h3 hk) hsl)⟩
      intro e
      subst e
      cases xs with
      | nil => simp at h0
      | cons x xs => exact nomatch ea
    · cases hb
  · split at hb
    · rename_i i j hm
      cases hb
      cases hx.int; cases hy.int
      exact op_fdivW pins s σ H _ _ v u Q I rx ry ⟨_, _, rfl, rfl, divOk_ok _ hm, q.val sb hl (.int _)⟩
    · cases hb
  · split at hb
    · rename_i i j hm
      cases hb
      cases hx.int; cases hy.int
      exact op_mod pins s σ H _ _ v u Q I rx ry ⟨_, _, rfl, rfl, hm, q.val sb hl (.int _)⟩
    · cases hb
  · split at hb
    · rename_i i j hm
      cases hb
      cases hx.int; cases hy.int
      unfold powOk at hm
      simp only [Bool.and_eq_true, decide_eq_true_eq] at hm
      exact op_pow pins s σ H _ _ v u Q I rx ry ⟨_, _, rfl, rfl, hm, q.val sb hl (.int _)⟩
    · cases hb
  · cases hb
end Sn

namespace Sn
open PySem PySem.Spec L2
variable {K : PySem.W.Frag} {F F' H H' G : Hp} {z : Pz} {ρ ρ' : List Sl} {σ σ' : St}
theorem flat_V {v : V} {d : D} (h : At K F v d) (f : isFlat d = true) : flatV v = true := by
  cases h <;> first | rfl | (simp [isFlat] at f)
theorem eq_flat {v w : V} {d e : D} (h : At K F v d) (h' : At K F w e) (f : isFlat d = true) (f' : isFlat e = true) : eqV v w = PyData.eqv d e := by
  cases h <;> first | (simp [isFlat] at f; done) | skip
  all_goals (cases h' <;> first | (simp [isFlat] at f'; done) | (simp [eqV, PyData.eqv]))
theorem all_flat : ∀ {ds : List D} {vs : List V}, AtAll K F vs ds → ds.all isFlat = true → vs.all flatV = true
  | [], _, h, _ => by cases h; rfl
  | d :: ds, _, h, f => by
    cases h with
    | cons h1 h2 =>
      simp only [List.all_cons, Bool.and_eq_true] at f ⊢
      exact ⟨flat_V h1 f.1, all_flat h2 f.2⟩
theorem any_flat {w : V} {e : D} (h' : At K F w e) (f' : isFlat e = true) : ∀ {ds : List D} {vs : List V}, AtAll K F vs ds → ds.all isFlat = true → inV w vs = ds.any fun z => PyData.eqv z e
  | [], _, h, _ => by cases h; rfl
  | d :: ds, _, h, f => by
    cases h with
    | cons h1 h2 =>
      simp only [List.all_cons, Bool.and_eq_true] at f
      have ih := any_flat h' f' h2 f.2
      unfold inV at ih ⊢
      simp only [List.any_cons, ih, eq_flat h1 h' f.1 f']
theorem Vw.flat {v : V} {d : D} (h : Vw K F H v d) (f : isFlat d = true) : At K F v d := by
  rcases h with h | ⟨a, vs, xs, rfl, rfl, _⟩
  · exact h
  · simp [isFlat] at f
/-- a key -/
theorem keyI_V {v : V} {d : D} {k : Key} (h : keyI d = some k) (a : At K F v d) : v = kV k := by
  cases a <;> simp [keyI] at h <;> subst h <;> rfl
theorem keysI_V : ∀ {ds : List D} {vs : List V} {ks : List Key}, keysI ds = some ks → AtAll K F vs ds → vs = ks.map kV
  | [], _, _, h, a => by simp [keysI] at h; subst h; cases a; rfl
  | d :: ds, _, ks, h, a => by
    cases a with
    | cons a1 a2 =>
      simp only [keysI] at h
      split at h
      · rename_i k ks' e1 e2
        cases h
        rw [keyI_V e1 a1, keysI_V e2 a2]; rfl
      · cases h
theorem KD.val {κ : Type} [DecidableEq κ] (k : κ) : ∀ {kvs : List (κ × D)} {ws : List (κ × V)}, KD K F kvs ws → match lookD kvs k with
    | some d => ∃ v, valV ws k = some v ∧ At K F v d
    | none => valV ws k = none
  | [], [], _ => rfl
  | (a, d) :: r, (a', v) :: t, h => by
    obtain ⟨rfl, h1, h2⟩ := h
    unfold lookD
    by_cases e : a = k
    · rw [if_pos e]
      exact ⟨v, valV_pos e, h1⟩
    · rw [if_neg e]
      have ih := KD.val k h2
      rw [valV_neg e]
      exact ih
  | [], _ :: _, h => h.elim
  | _ :: _, [], h => h.elim
theorem KD.has {κ : Type} [DecidableEq κ] (k : κ) : ∀ {kvs : List (κ × D)} {ws : List (κ × V)}, KD K F kvs ws → (ws.any fun kv => decide (kv.1 = k)) = hasD kvs k
  | [], [], _ => rfl
  | (a, d) :: r, (a', v) :: t, h => by
    obtain ⟨rfl, h1, h2⟩ := h
    have ih := KD.has k h2
    unfold hasD at ih ⊢
    simp only [List.any_cons, ih]
  | [], _ :: _, h => h.elim
  | _ :: _, [], h => h.elim
theorem KD.repl {κ : Type} [DecidableEq κ] {k : κ} {d : D} {v : V} (hv : At K F v d) : ∀ {kvs : List (κ × D)} {ws : List (κ × V)}, KD K F kvs ws →
    KD K F (kvs.map fun kv => if kv.1 = k then (kv.1, d) else kv) (ws.map fun kv => if kv.1 = k then (kv.1, v) else kv)
  | [], [], _ => trivial
  | (a, d') :: r, (a', v') :: t, h => by
    obtain ⟨rfl, h1, h2⟩ := h
    have ih := KD.repl (k := k) hv h2
    simp only [List.map_cons]
    by_cases e : a = k
    · simp only [e, if_true]; exact ⟨rfl, hv, ih⟩
    · simp only [e, if_false]; exact ⟨rfl, h1, ih⟩
  | [], _ :: _, h => h.elim
  | _ :: _, [], h => h.elim
theorem KD.snoc {κ : Type} {k : κ} {d : D} {v : V} (hv : At K F v d) : ∀ {kvs : List (κ × D)} {ws : List (κ × V)}, KD K F kvs ws → KD K F (kvs ++ [(k, d)]) (ws ++ [(k, v)])
  | [], [], _ => ⟨rfl, hv, trivial⟩
  | (a, d') :: r, (a', v') :: t, h => ⟨h.1, h.2.1, KD.snoc hv h.2.2⟩
  | [], _ :: _, h => h.elim
  | _ :: _, [], h => h.elim
theorem KD.put {κ : Type} [DecidableEq κ] {k : κ} {d : D} {v : V} (hv : At K F v d) {kvs : List (κ × D)} {ws : List (κ × V)} (h : KD K F kvs ws) : KD K F (putD kvs k d) (putK ws k v) := by
  unfold putD putK
  rw [h.has k]
  by_cases e : hasD kvs k = true
  · rw [if_pos e, if_pos e]; exact h.repl hv
  · rw [if_neg e, if_neg e]; exact h.snoc hv
/-- what a dict of one's own holds at a key -/
theorem Rep.dget (P : Rep K G z F ρ σ H) {r : R} {x y : V} {c : C} {d : D} {o : Option D} (h : OOk K F σ r x) (e : vwC ρ r = some c) (hy : Vw K F H y d) (g : getC c d = some o) :
    ∃ a u, x = .ref a ∧ DGet H a y u ∧ (match o with | some d => ∃ v, u = some v ∧ At K F v d | none => u = none) := by
  cases r with
  | v d' => simp [vwC] at e
  | nw c' => exact h.elim
  | sl i =>
    have h : σ[i]? = some (some x) := h
    simp only [vwC] at e
    split at e
    · rename_i f c' q
      cases e
      obtain ⟨a, h1, _, _, _, h5⟩ := P.ow q
      rw [h] at h1; cases h1
      cases c with
      | l xs => simp [getC] at g
      | t kvs =>
        obtain ⟨ws, h6, h7⟩ := h5
        simp only [getC, Option.map_eq_some_iff] at g
        obtain ⟨ks, g1, g2⟩ := g
        cases d with
        | tuple ds =>
          obtain ⟨b, vs, rfl, h8, h9, _⟩ := hy.tup P.fh P.hl
          have e2 := keysI_V (show keysI ds = some ks from g1) h9
          subst e2
          refine ⟨a, _, rfl, .t h6 h8, ?_⟩
          have q := h7.val ks
          rw [g2] at q
          cases o <;> exact q
        | _ => simp [keyL] at g1
      | k kvs =>
        obtain ⟨ws, h6, h7⟩ := h5
        simp only [getC, Option.map_eq_some_iff] at g
        obtain ⟨k, g1, g2⟩ := g
        have f : isFlat d = true := by cases d <;> simp [keyI] at g1 <;> rfl
        have e2 := keyI_V g1 (hy.flat f)
        subst e2
        refine ⟨a, _, rfl, .k h6, ?_⟩
        have q := h7.val k
        rw [g2] at q
        cases o <;> exact q
    · cases e

def opC : Cop → CmpOp
  | .eq => .Eq | .ne => .NotEq | .lt => .Lt | .le => .LtE | .gt => .Gt | .ge => .GtE | .inn => .In | .notIn => .NotIn | .isN => .Is | .notN => .IsNot
def rCmp (K : PySem.W.Frag) (o : Cop) : R2 := fun x y H Q => ∃ G z F ρ σ rx ry b, Rep K G z F ρ σ H ∧ OOk K F σ rx x ∧ OOk K F σ ry y ∧ cmpR o rx ry ρ = some b ∧ Q (.bl b) H
theorem op_cmpD {X : Cx} (hu : X.A.units + 65 < cLine) (o : Cop) {pins : List (Addr × Obj)} {s : Shared} {σ : St} {H F : Hp} {x y : V} {v u : Value} {Q : VK} {dx dy : D} {b : Bool} (I : Inv X pins σ H s) (rx : RelV x v) (ry : RelV y u)
    (sb : Sub F H) (hl : HLen F) (hx : Vw X.K F H x dx) (hy : Vw X.K F H y dy) (h : cmpD o dx dy = some b) (q : Q (.bl b) H) :
    wpAny (model X.prog X.w) X.A (compareOp (opC o) v u) (EP X pins σ Q) X.xe s := by
  have hu' : X.A.units + 64 < cLine := by omega
  have hu0 : X.A.units < cLine := by omega
  unfold cmpD at h
  split at h
  · split at h
    · rename_i sh
      cases h
      rw [Bool.and_eq_true] at sh
      exact op_eqD hu' pins s σ H _ _ v u Q I rx ry ⟨_, _, hx.dp sb (nd_shaped sh.1), hy.dp sb (nd_shaped sh.2), sh.1, sh.2, q⟩
    · cases h
  · split at h
    · rename_i sh
      cases h
      rw [Bool.and_eq_true] at sh
      exact op_neD hu' pins s σ H _ _ v u Q I rx ry ⟨_, _, hx.dp sb (nd_shaped sh.1), hy.dp sb (nd_shaped sh.2), sh.1, sh.2, q⟩
    · cases h
  · cases h; cases hx.int; cases hy.int
    exact op_lt pins s σ H _ _ v u Q I rx ry ⟨_, _, rfl, rfl, q⟩
  · split at h
    · rename_i xs ys ns ms e1 e2
      cases h
      have e1 := intsD_map e1
      have e2 := intsD_map e2
      subst e1 e2
      obtain ⟨a, vs, rfl, ha, ea, _⟩ := hx.tup sb hl
      obtain ⟨c, us, rfl, hc, ec, _⟩ := hy.tup sb hl
      cases ea.ints; cases ec.ints
      exact op_ltT hu0 pins s σ H _ _ v u Q I rx ry ⟨_, _, _, _, rfl, rfl, .of ha, .of hc, q⟩
    · cases h
  · cases h; cases hx.int; cases hy.int
    exact op_le pins s σ H _ _ v u Q I rx ry ⟨_, _, rfl, rfl, q⟩
  · cases h; cases hx.int; cases hy.int
    exact op_gt pins s σ H _ _ v u Q I rx ry ⟨_, _, rfl, rfl, q⟩
  · cases h; cases hx.int; cases hy.int
    exact op_ge pins s σ H _ _ v u Q I rx ry ⟨_, _, rfl, rfl, q⟩
  · split at h
    · rename_i ds f
      cases h
      rw [Bool.and_eq_true] at f
      obtain ⟨a, vs, rfl, ha, ea, _⟩ := hy.list sb hl
      refine op_in_seq pins s σ H _ _ v u Q I rx ry ⟨a, vs, rfl, .inl (.inl ha), flat_V (hx.flat f.1) f.1, all_flat ea f.2, ?_⟩
      simp only [Bool.false_eq_true, if_false]
      rw [any_flat (hx.flat f.1) f.1 ea f.2]; exact q
    · split at h
      · rename_i sh
        cases h
        rw [Bool.and_eq_true] at sh
        exact op_inD hu pins s σ H _ _ v u Q I rx ry ⟨_, _, hx.dp sb (nd_shaped sh.1), hy.dp sb (nd_shaped sh.2), sh.1, sh.2, q⟩
      · cases h
  · split at h
    · rename_i ds f
      cases h
      rw [Bool.and_eq_true] at f
      obtain ⟨a, vs, rfl, ha, ea, _⟩ := hy.tup sb hl
      refine op_in_seq pins s σ H _ _ v u Q I rx ry ⟨a, vs, rfl, .inr (.of ha), flat_V (hx.flat f.1) f.1, all_flat ea f.2, ?_⟩
      simp only [Bool.false_eq_true, if_false]
      rw [any_flat (hx.flat f.1) f.1 ea f.2]; exact q
    · cases h
  · split at h
    · rename_i ds f
      cases h
      rw [Bool.and_eq_true] at f
      obtain ⟨a, vs, rfl, ha, ea, _⟩ := hy.list sb hl
      refine op_notIn_seq pins s σ H _ _ v u Q I rx ry ⟨a, vs, rfl, .inl (.inl ha), flat_V (hx.flat f.1) f.1, all_flat ea f.2, ?_⟩
      simp only [if_true]
      rw [any_flat (hx.flat f.1) f.1 ea f.2]; exact q
    · split at h
      · rename_i sh
        cases h
        rw [Bool.and_eq_true] at sh
        exact op_notInD hu pins s σ H _ _ v u Q I rx ry ⟨_, _, hx.dp sb (nd_shaped sh.1), hy.dp sb (nd_shaped sh.2), sh.1, sh.2, q⟩
      · cases h
  · split at h
    · rename_i ds f
      cases h
      rw [Bool.and_eq_true] at f
      obtain ⟨a, vs, rfl, ha, ea, _⟩ := hy.tup sb hl
      refine op_notIn_seq pins s σ H _ _ v u Q I rx ry ⟨a, vs, rfl, .inr (.of ha), flat_V (hx.flat f.1) f.1, all_flat ea f.2, ?_⟩
      simp only [if_true]
      rw [any_flat (hx.flat f.1) f.1 ea f.2]; exact q
    · cases h
  · cases h; cases hx.str; cases hy.str
    exact op_in_str pins s σ H _ _ v u Q I rx ry ⟨_, _, rfl, rfl, q⟩
  · cases h; cases hx.str; cases hy.str
    exact op_notin_str pins s σ H _ _ v u Q I rx ry ⟨_, _, rfl, rfl, q⟩
  · cases h; cases hx.non; cases hy.non
    exact op_isN pins s σ H _ _ v u Q I rx ry ⟨rfl, q⟩
  · rename_i n
    cases h; cases hy.non
    refine op_isN pins s σ H _ _ v u Q I rx ry ⟨rfl, ?_⟩
    have : x ≠ .non := by
      rintro rfl
      rcases hx with h | ⟨_, _, _, e, _⟩
      · cases h; exact n rfl
      · cases e
    rw [decide_eq_false this]; exact q
  · cases h; cases hx.bool; cases hy.bool
    refine op_isBl pins s σ H _ _ v u Q I rx ry ⟨_, _, rfl, rfl, ?_⟩
    rw [← Bool.beq_eq_decide_eq]; exact q
  · cases h; cases hx.non; cases hy.non
    exact op_notN pins s σ H _ _ v u Q I rx ry ⟨rfl, q⟩
  · rename_i n
    cases h; cases hy.non
    refine op_notN pins s σ H _ _ v u Q I rx ry ⟨rfl, ?_⟩
    have : x ≠ .non := by
      rintro rfl
      rcases hx with h | ⟨_, _, _, e, _⟩
      · cases h; exact n rfl
      · cases e
    rw [decide_eq_false this]; exact q
  · cases h; cases hx.bool; cases hy.bool
    refine op_notBl pins s σ H _ _ v u Q I rx ry ⟨_, _, rfl, rfl, ?_⟩
    rw [← Bool.beq_eq_decide_eq]; exact q
  · cases h
theorem op_cmp {X : Cx} (hu : X.A.units + 65 < cLine) (o : Cop) : OpR X (compareOp (opC o)) (rCmp X.K o) := by
  intro pins s σ H x y v u Q I rx ry h
  obtain ⟨G, z, F, ρ, σ', r, t, b, P, ox, oy, e, q⟩ := h
  have hu1 : X.A.units + 1 < cLine := by omega
  unfold cmpR at e
  split at e
  · rename_i kvs hc
    simp only [Option.bind_eq_some_iff, Option.map_eq_some_iff] at e
    obtain ⟨d, e1, w, e2, rfl⟩ := e
    obtain ⟨a, uu, rfl, g, m⟩ := P.dget oy hc (P.ovw ox e1) e2
    cases ry
    have hw : w.isSome = uu.isSome := by
      cases w with
      | none => simp only at m; subst m; rfl
      | some d => obtain ⟨v', rfl, _⟩ := m; rfl
    rw [hw] at q
    exact d_in hu1 I g rx fun s3 I3 => ⟨.bl _, H, I3, rfl, q⟩
  · rename_i kvs hc
    simp only [Option.bind_eq_some_iff, Option.map_eq_some_iff] at e
    obtain ⟨d, e1, w, e2, rfl⟩ := e
    obtain ⟨a, uu, rfl, g, m⟩ := P.dget oy hc (P.ovw ox e1) e2
    cases ry
    have hw : w.isSome = uu.isSome := by
      cases w with
      | none => simp only at m; subst m; rfl
      | some d => obtain ⟨v', rfl, _⟩ := m; rfl
    rw [hw] at q
    exact d_in hu1 I g rx fun s3 I3 => ⟨.bl _, H, I3, rfl, q⟩
  · rename_i kvs hc
    simp only [Option.bind_eq_some_iff, Option.map_eq_some_iff] at e
    obtain ⟨d, e1, w, e2, rfl⟩ := e
    obtain ⟨a, uu, rfl, g, m⟩ := P.dget oy hc (P.ovw ox e1) e2
    cases ry
    have hw : w.isSome = uu.isSome := by
      cases w with
      | none => simp only at m; subst m; rfl
      | some d => obtain ⟨v', rfl, _⟩ := m; rfl
    rw [hw] at q
    exact d_notIn hu1 I g rx fun s3 I3 => ⟨.bl _, H, I3, rfl, q⟩
  · rename_i kvs hc
    simp only [Option.bind_eq_some_iff, Option.map_eq_some_iff] at e
    obtain ⟨d, e1, w, e2, rfl⟩ := e
    obtain ⟨a, uu, rfl, g, m⟩ := P.dget oy hc (P.ovw ox e1) e2
    cases ry
    have hw : w.isSome = uu.isSome := by
      cases w with
      | none => simp only at m; subst m; rfl
      | some d => obtain ⟨v', rfl, _⟩ := m; rfl
    rw [hw] at q
    exact d_notIn hu1 I g rx fun s3 I3 => ⟨.bl _, H, I3, rfl, q⟩
  · simp only [Option.bind_eq_some_iff] at e
    obtain ⟨dx, e1, dy, e2, e3⟩ := e
    exact op_cmpD hu _ I rx ry P.fh P.hl (P.ovw ox e1) (P.ovw oy e2) e3 q
end Sn

namespace Fs
open PySem PySem.Calls PyProof.Rows PySem.SeqAt PySem.W
section
variable {prog : Program} {w : World} {A : Around} {E : Value → Shared → Prop} {s : Shared}
theorem call_tuple_lt {Q : Value → Shared → Prop} {l b : Addr} {items items2 : Array Value} {e r : Nat → Bool} (hl : s.heap.IsTuple l items) (hb : s.heap.IsTuple b items2)
    (he : ∀ j (h1 : j < items.size) (h2 : j < items2.size), EqAt A.in1 s items[j] items2[j] (e j)) (hr : ∀ j (h1 : j < items.size) (h2 : j < items2.size), e j = false → RcLt A.in1 s items[j] items2[j] (r j))
    (h : Q (.bool (firstLt e r (decide (items.size < items2.size)) (List.range (min items.size items2.size)))) s) : wpAny (model prog w) A (call (.builtin "tuple.__lt__") [.ref l, .ref b]) Q E s := by
  obtain ⟨⟨cls, dd, data, sl⟩, ho, hc, n, hd⟩ := id hl
  obtain ⟨⟨cls2, dd2, data2, sl2⟩, ho2, hc2, n2, hd2⟩ := id hb
  simp only at hc hd hc2 hd2
  subst hc hd hc2 hd2
  exact call_meets F.slot_tuple_lt ⟨_, ho, rfl⟩ F.entry_tuple_lt (F.args_tuple_lt_2 _ _) (tuple_ltAt l b items items2 n n2 dd dd2 sl sl2 e r) ⟨ho, ho2, he, hr, h⟩
/-- one key against another, both tuples -/
theorem oneLt_tuples {xs ys : List PyData} {a b : Value} {as bs : List Addr} {Q : Bool → Shared → Prop} (ra : Reads s.heap a (.tuple xs) as) (rb : Reads s.heap b (.tuple ys) bs) (h : alike (.tuple xs) (.tuple ys) = true)
    (hu : A.units + min (PyData.depth (.tuple xs)) (PyData.depth (.tuple ys)) < cLine) (hq : Q (dataLt (.tuple xs) (.tuple ys)) s) : wpAny (model prog w) A (oneLt' true a b) Q E s := by
  have hal : alikeAll xs ys = true := by simpa [alike] using h
  cases ra with
  | @tuple l o vs n _ as₁ h1 h2 h3 h4 =>
    cases rb with
    | @tuple l' o' vs' n' _ bs₁ k1 k2 k3 k4 =>
      have n1 : vs.size = xs.length := by simpa using ReadsAll.length _ _ _ h4
      have n2 : vs'.size = ys.length := by simpa using ReadsAll.length _ _ _ k4
      rw [dataLt_tuple, ← firstLt_toks xs ys hal, ← n1, ← n2] at hq
      rw [oneLt'_eq]
      simp only [if_true]
      refine wpAny_bind (wpAny_cRoomFor (room_here hu) ?_)
      refine wpAny_bind (wpAny_callSpecialIfBound?_slot (T := "tuple") ⟨_, h1, h2⟩ F.slot_tuple_lt (call_tuple_lt (e := pairEq xs ys) (r := fun j => dataLt (xs.getD j .none) (ys.getD j .none)) ⟨_, h1, h2, _, h3⟩ ⟨_, k1, k2, _, k3⟩ (fun j j1 j2 => ?_) (fun j j1 j2 hj => ?_) ?_))
      · have := eqAt_alikeAll xs ys A.in1 s vs.toList vs'.toList _ _ h4 k4 hal (room_in hu) j (by simpa using j1) (by simpa using j2)
        simpa using this
      · have := rcLt_alikeAll xs ys A.in1 s vs.toList vs'.toList _ _ h4 k4 hal (room_in hu) j (by simpa using j1) (by simpa using j2) hj
        simpa using this
      · exact wpAny_truthy_bool hq
/-- all are tuples, the first of them the empty one -/
def Sort0 (ds : List PyData) : Prop := (∀ d, d ∈ ds → ∃ xs, d = .tuple xs) ∧ ∃ r, ds = .tuple [] :: r
theorem firsts_any : ∀ (vs : List Value) (ds : List PyData) {Q : List (Option Value) → Shared → Prop}, EachIs (fun v d => ∃ as, Reads s.heap v d as) vs ds → (∀ d, d ∈ ds → ∃ xs, d = .tuple xs) → (∀ fs, Q fs s) → wpAny (model prog w) A (vs.mapM firstOfTuple') Q E s
  | [], _, Q, _, _, h => by rw [List.mapM_nil]; exact wpAny_pure (h _)
  | v :: vs, _, Q, e, ht, h => by
    cases e with
    | cons h1 t =>
      rename_i d ds
      obtain ⟨as, r⟩ := h1
      obtain ⟨xs, rfl⟩ := ht d (List.mem_cons_self ..)
      cases r with
      | @tuple a o vs' n _ _ ho hc hd hr =>
        rw [List.mapM_cons]
        refine wpAny_bind ?_
        rw [kas_first_eq]
        refine wpAny_bind (Looks.here (show Looks (model prog w) s.heap (typeOf (.ref a)) o.cls from (Looks.ld ho).andThen .now) ?_)
        rw [hc, if_neg (by first | decide | simp)]
        refine wpAny_bind (listItems_at ho hd (wpAny_pure ?_))
        exact wpAny_bind (firsts_any vs ds (Q := fun bs s' => wpAny (model prog w) A (pure (vs'[0]? :: bs)) Q E s') t (fun d hd => ht d (List.mem_cons_of_mem _ hd)) fun fs => wpAny_pure (h _))
theorem firsts_0 {vs : List Value} {ds : List PyData} {Q : List (Option Value) → Shared → Prop} (e : EachIs (fun v d => ∃ as, Reads s.heap v d as) vs ds) (h0 : Sort0 ds) (h : ∀ fs, Q (none :: fs) s) : wpAny (model prog w) A (vs.mapM firstOfTuple') Q E s := by
  obtain ⟨ht, r, rfl⟩ := h0
  cases e with
  | cons h1 t =>
    rename_i v vs
    obtain ⟨as, r⟩ := h1
    cases r with
    | @tuple a o vs' n _ _ ho hc hd hr =>
      have hz : vs'[0]? = none := by
        have := ReadsAll.length _ _ _ hr
        simp at this ⊢; exact this
      rw [List.mapM_cons]
      refine wpAny_bind ?_
      rw [kas_first_eq]
      refine wpAny_bind (Looks.here (show Looks (model prog w) s.heap (typeOf (.ref a)) o.cls from (Looks.ld ho).andThen .now) ?_)
      rw [hc, if_neg (by first | decide | simp)]
      refine wpAny_bind (listItems_at ho hd (wpAny_pure ?_))
      rw [hz]
      exact wpAny_bind (firsts_any vs _ (Q := fun bs s' => wpAny (model prog w) A (pure (none :: bs)) Q E s') t (fun d hd => ht d (List.mem_cons_of_mem _ hd)) fun fs => wpAny_pure (h _))
theorem kind_0 {vs : List Value} {ds : List PyData} {Q : SortKind → Shared → Prop} (e : EachIs (fun v d => ∃ as, Reads s.heap v d as) vs ds) (h0 : Sort0 ds) (h : Q oneType' s) : wpAny (model prog w) A (keyKind' vs.toArray) Q E s := by
  rw [keyKind'_eq, List.mapM_toArray, map_eq_pure_bind]
  refine wpAny_bind (wpAny_bind (firsts_0 e h0 fun fs => wpAny_pure ?_))
  rw [if_neg (by simp), if_neg (by simp)]
  have hT : ∀ v ∈ vs, Looks (model prog w) s.heap (typeOf v) (.type "tuple") := fun v hv => by
    obtain ⟨d, hd, as, r⟩ := e.left v hv
    obtain ⟨xs, rfl⟩ := h0.1 d hd
    exact looks_reads r
  obtain ⟨v₁, rest, rfl⟩ : ∃ v₁ rest, vs = v₁ :: rest := by
    obtain ⟨_, r, rfl⟩ := h0
    cases e with
    | cons h1 t => exact ⟨_, _, rfl⟩
  rw [oneTypeOnly'_eq, List.mapM_toArray, map_eq_pure_bind]
  refine wpAny_bind (wpAny_bind (wpAny_bind (kas_mapM (r := .type "tuple") _ (fun v hv Q' hq => (hT v hv).here hq) (wpAny_pure ?_))))
  have hall : ((List.map (fun _ => Value.type "tuple") (v₁ :: rest)).toArray.all fun x => x == Value.type "tuple") = true := by
    simp only [List.all_toArray, List.all_map, List.all_eq_true]
    intro _ _
    exact beq_self_eq_true _
  have hh : (List.map (fun _ => Value.type "tuple") (v₁ :: rest)).toArray[0]? = some (Value.type "tuple") := by simp
  rw [hh]
  simp only [hall, if_true]
  exact wpAny_pure (wpAny_pure h)
theorem sorts_0 {vs : List Value} {ds : List PyData} (e : EachIs (fun v d => ∃ as, Reads s.heap v d as) vs ds) (hal : AllAlike ds) (hk : Sort0 ds) (hu : ∀ d, d ∈ ds → A.units + d.depth < cLine) : SortsAt prog w A s (dataKind s.heap ds) vs := by
  refine ⟨fun v hv => ?_, oneType', ?_, fun h2 E Q hq => kind_0 e hk hq⟩
  · obtain ⟨d, hd, as, r⟩ := e.left v hv
    exact ⟨_, dataKind_some hal hd r⟩
  · intro E x y a b Q ha hb hq
    obtain ⟨d, as, hd, ra, rfl⟩ := dataKind_inv ha
    obtain ⟨d', as', hd', rb, rfl⟩ := dataKind_inv hb
    rw [keyLt'_oneType]
    obtain ⟨xs, rfl⟩ := hk.1 d hd
    obtain ⟨ys, rfl⟩ := hk.1 d' hd'
    exact oneLt_tuples ra rb (hal _ hd _ hd') (Nat.lt_of_le_of_lt (Nat.add_le_add_left (Nat.min_le_left _ _) _) (hu _ hd)) hq
end
section
variable {prog : Program} {w : World} {A : Around} {E : Value → Shared → Prop} {s : Shared} {β : Type} {R : Value → β → Prop} {enc : β → PyData} {vs : List Value} {bs : List β}
theorem sorted_0 {l : Addr} {Q : Value → Shared → Prop} (hl : s.heap.IsList l vs.toArray) (e : EachIs R vs bs) (er : EachIs (fun v b => ∃ as, Reads s.heap v (enc b) as) vs bs) (hal : AllAlike (bs.map enc)) (hk : Sort0 (bs.map enc)) (hL : bs.length ≤ sizeLine)
    (hu : ∀ b, b ∈ bs → A.units + 2 + (enc b).depth < cLine) (h : ∀ out, out.length = bs.length → EachIs R out (bs.mergeSort (dataLe false enc)) → Q (.ref (s.heap.objs.size + 1)) { s with heap := sortedAll s.heap vs (List.toArray out) }) :
    wpAny (model prog w) A (call (.builtin "sorted") [.ref l]) Q E s := by
  have er' : EachIs (fun v b => ∃ as, Reads (sortingHeap (copyHeap s.heap vs) (s.heap.objs.size + 1) vs) v (enc b) as) vs bs := er.mono fun _ _ ⟨as, r⟩ => ⟨as, PyProof.Rows.Reads.keeps (fun _ _ => sorting_copy_old) r⟩
  exact sorted_vals hl (sorts_0 (s := { s with heap := sortingHeap (copyHeap s.heap vs) (s.heap.objs.size + 1) vs }) (each_map (R := fun v d => ∃ as, Reads (sortingHeap (copyHeap s.heap vs) (s.heap.objs.size + 1) vs) v d as) enc er') hal hk (bound_map hu)) (by rw [e.length]; exact hL)
    (h _ (by rw [sortVals_length false rfl]; exact e.length) (sortVals_data false e er' hal))
/-- what can be sorted -/
def SortOk (ds : List PyData) : Prop := Sortable ds ∨ Sort0 ds
theorem sorts_any {vs : List Value} {ds : List PyData} (e : EachIs (fun v d => ∃ as, Reads s.heap v d as) vs ds) (hal : AllAlike ds) (hk : SortOk ds) (hu : ∀ d, d ∈ ds → A.units + d.depth < cLine) : SortsAt prog w A s (dataKind s.heap ds) vs :=
  hk.elim (fun h => SortsAt.data e hal h hu) fun h => sorts_0 e hal h hu
theorem sorted_any {l : Addr} {Q : Value → Shared → Prop} (hl : s.heap.IsList l vs.toArray) (e : EachIs R vs bs) (er : EachIs (fun v b => ∃ as, Reads s.heap v (enc b) as) vs bs) (hal : AllAlike (bs.map enc)) (hk : SortOk (bs.map enc)) (hL : bs.length ≤ sizeLine)
    (hu : ∀ b, b ∈ bs → A.units + 2 + (enc b).depth < cLine) (h : ∀ out, out.length = bs.length → EachIs R out (bs.mergeSort (dataLe false enc)) → Q (.ref (s.heap.objs.size + 1)) { s with heap := sortedAll s.heap vs (List.toArray out) }) :
    wpAny (model prog w) A (call (.builtin "sorted") [.ref l]) Q E s :=
  hk.elim (fun k => sorted_data hl e er hal k hL hu h) fun k => sorted_0 hl e er hal k hL hu h
theorem list_sort_any {a : Addr} {n : Nat} {Q : Value → Shared → Prop} (ho : s.heap.get? a = some (seqObj "list" vs.toArray n)) (e : EachIs R vs bs) (er : EachIs (fun v b => ∃ as, Reads s.heap v (enc b) as ∧ a ∉ as) vs bs) (hal : AllAlike (bs.map enc)) (hk : SortOk (bs.map enc)) (hL : bs.length ≤ sizeLine)
    (hu : ∀ b, b ∈ bs → A.units + 1 + (enc b).depth < cLine) (h : ∀ out, out.length = bs.length → EachIs R out (bs.mergeSort (dataLe false enc)) → Q .none { s with heap := sortedHeap s.heap a vs (List.toArray out) }) :
    wpAny (model prog w) A (call (.builtin "list.sort") [.ref a]) Q E s := by
  have er' : EachIs (fun v b => ∃ as, Reads (sortingHeap s.heap a vs) v (enc b) as) vs bs := each_keepBut (h' := sortingHeap s.heap a vs) (fun _ _ hb q => sortingHeap_old hb q) (fun o q => by rw [ho] at q; rw [← Option.some.inj q]) hal er
  refine wpAny_call_entry slot_list_sort ⟨_, ho, rfl⟩ entry_list_sort (list_sort_vals (κ := dataKind (sortingHeap s.heap a vs) (bs.map enc)) ho (sorts_any (s := { s with heap := sortingHeap s.heap a vs }) (each_map (R := fun v d => ∃ as, Reads (sortingHeap s.heap a vs) v d as) enc er') hal hk (bound_map hu)) (by rw [e.length]; exact hL) ⟨.none, rfl, ?_⟩) (args_list_sort _)
  exact h _ (by rw [sortVals_length false rfl]; exact e.length) (sortVals_data false e er' hal)
end
end Fs

namespace Sn
open PySem PySem.Spec L2
variable {K : PySem.W.Frag} {F F' H H' G : Hp} {z : Pz} {ρ ρ' : List Sl} {σ σ' : St}

theorem atI_map {ds : List D} {vs : List V} (h : AtAll K F vs ds) {i : Int} {d : D} (e : atI ds i = some d) : ∃ v, atI vs i = some v ∧ At K F v d := by
  unfold atI at e ⊢
  rw [h.length]
  cases q : ixN ds.length i with
  | none => rw [q] at e; cases e
  | some j =>
    rw [q] at e
    exact h.get e
/-- x[y], of operands -/
def rIxS (K : PySem.W.Frag) : R2 := fun x y H Q => ∃ G z F ρ σ rx ry d, Rep K G z F ρ σ H ∧ OOk K F σ rx x ∧ OOk K F σ ry y ∧ ixR rx ry ρ = some d ∧ ∀ v, At K F v d → Q v H
theorem ix_all {X : Cx} (hu : X.A.units + 65 < cLine) : IxR X (rIxS X.K) := by
  intro value slice pins s σ H x y v u Q I rx ry h hs
  obtain ⟨G, z, F, ρ, σ', r, t, d, P, ox, oy, e, q⟩ := h
  have hu1 : X.A.units + 1 < cLine := by omega
  have dict : ∀ {c : C}, vwC ρ r = some c → (∀ xs, c ≠ .l xs) → ∀ dy, vw ρ t = some dy → getC c dy = some (some d) → wpAny (model X.prog X.w) X.A (PyProof.Rows.subscriptTail value slice v u) (EP X pins σ Q) X.xe s := by
    intro c hc _ dy e1 e2
    obtain ⟨a, uu, rfl, g, m⟩ := P.dget ox hc (P.ovw oy e1) e2
    obtain ⟨w, rfl, hw⟩ := m
    cases rx
    exact PyProof.Rows.tail_any (dict_typeIs I g) PySem.F.slot_dict_getitem.lookup (d_getItem hu1 I g ry fun w' s3 I3 rw' => ⟨w, H, I3, rw', q w hw⟩) hs
  have seq : ∀ dx dy, vw ρ r = some dx → vw ρ t = some dy → ixD dx dy = some d → wpAny (model X.prog X.w) X.A (PyProof.Rows.subscriptTail value slice v u) (EP X pins σ Q) X.xe s := by
    intro dx dy e1 e2 e3
    have hx := P.ovw ox e1
    have hy := P.ovw oy e2
    unfold ixD at e3
    split at e3
    · obtain ⟨a, vs, rfl, ha, ea, _⟩ := hx.list P.fh P.hl
      cases hy.int
      obtain ⟨w, e4, hw⟩ := atI_map ea e3
      exact ix_list value slice pins s σ H _ _ v u Q I rx ry ⟨a, vs, _, w, rfl, rfl, .inl ha, e4, q w hw⟩ hs
    · obtain ⟨a, vs, rfl, ha, ea, _⟩ := hx.tup P.fh P.hl
      cases hy.int
      obtain ⟨w, e4, hw⟩ := atI_map ea e3
      exact ix_tup value slice pins s σ H _ _ v u Q I rx ry ⟨a, vs, _, w, rfl, rfl, .of ha, e4, q w hw⟩ hs
    · obtain ⟨a, vs, rfl, ha, ea⟩ := hx.scr P.fh
      cases hy.int
      obtain ⟨w, e4, hw⟩ := atI_map ea e3
      exact ix_list value slice pins s σ H _ _ v u Q I rx ry ⟨a, vs, _, w, rfl, rfl, ha, e4, q w hw⟩ hs
    · cases e3
  unfold ixR at e
  split at e
  · rename_i kvs hc
    simp only [Option.bind_eq_some_iff] at e
    obtain ⟨dy, e1, w, e2, e3⟩ := e
    subst e3
    exact dict hc (fun _ q => nomatch q) dy e1 e2
  · rename_i kvs hc
    simp only [Option.bind_eq_some_iff] at e
    obtain ⟨dy, e1, w, e2, e3⟩ := e
    subst e3
    exact dict hc (fun _ q => nomatch q) dy e1 e2
  · simp only [Option.bind_eq_some_iff] at e
    obtain ⟨dx, e1, dy, e2, e3⟩ := e
    exact seq dx dy e1 e2 e3

theorem AtAll.cut {ds : List D} {vs : List V} (h : AtAll K F vs ds) (lo hi : Option Int) : AtAll K F (cutV vs lo hi) (cutD ds lo hi) := by
  unfold cutV cutD
  rw [h.length]
  exact (h.drop _).take _
theorem cutD_len (ds : List D) (lo hi : Option Int) : (cutD ds lo hi).length ≤ ds.length := by
  unfold cutD
  rw [List.length_take, List.length_drop]
  omega
def rSlS (K : PySem.W.Frag) : V → Option Int → Option Int → Hp → VK → Prop := fun x lo hi H Q => ∃ F dx r, Sub F H ∧ HLen F ∧ Vw K F H x dx ∧ slcI dx lo hi = some r ∧ QOk K F H r Q
theorem cutD_all {ds : List D} {lo hi : Option Int} (h : HT.sIx ds.length 0 lo = 0 ∧ HT.sIx ds.length ds.length hi = ds.length) : cutD ds lo hi = ds := by
  unfold cutD
  rw [h.1, h.2]
  simp
theorem sl_all {X : Cx} : SlR X (rSlS X.K) := by
  intro pins s σ H x v vl vu lo hi sl Q I rx hs pl pu h
  obtain ⟨F, dx, r, sb, hl, hx, e, q⟩ := h
  unfold slcI at e
  split at e
  · cases e
    rename_i xs
    obtain ⟨a, vs, rfl, ha, ea, la⟩ := hx.list sb hl
    exact sl_list pins s σ H _ v vl vu lo hi sl Q I rx hs pl pu ⟨a, vs, rfl, .inl ha, q.lst sb hl (ea.cut lo hi) (Nat.le_trans (cutD_len _ _ _) la)⟩
  · cases e
    rename_i xs
    obtain ⟨a, vs, rfl, ha, ea, la⟩ := hx.tup sb hl
    refine sl_tupA pins s σ H _ v vl vu lo hi sl Q I rx hs pl pu ⟨a, vs, rfl, .of ha, fun h => ?_, fun h => q.tup sb hl (ea.cut lo hi) (Nat.le_trans (cutD_len _ _ _) la)⟩
    rw [ea.length] at h
    rw [cutD_all h] at q
    refine q.val sb hl ?_
    rcases hx with h | ⟨_, _, _, _, e, _⟩
    · exact h
    · cases e
  · cases e

def rBi (K : PySem.W.Frag) (b : Bi) : List V → Hp → VK → Prop := fun vs H Q => ∃ F ds r, Sub F H ∧ HLen F ∧ Paired (Vw K F H) vs ds ∧ biD b ds = some r ∧ QOk K F H r Q
theorem pair1 {α β : Type} {R : α → β → Prop} {as : List α} {b : β} (h : Paired R as [b]) : ∃ a, as = [a] ∧ R a b := by
  cases h with
  | cons h1 h2 => cases h2; exact ⟨_, rfl, h1⟩
theorem pair2 {α β : Type} {R : α → β → Prop} {as : List α} {b c : β} (h : Paired R as [b, c]) : ∃ a a', as = [a, a'] ∧ R a b ∧ R a' c := by
  cases h with
  | cons h1 h2 => obtain ⟨a', rfl, h3⟩ := pair1 h2; exact ⟨_, _, rfl, h1, h3⟩
theorem bi_len {X : Cx} : CallR X (.builtin "len") (rBi X.K .len) := by
  intro pins s σ H xs us Q I r h
  obtain ⟨F, ds, o, sb, hl, hp, e, q⟩ := h
  unfold biD at e
  split at e <;> rename_i hb <;> try (first | (cases hb; done) | (cases e; done))
  · cases e
    obtain ⟨a, rfl, h⟩ := pair1 hp
    obtain ⟨p, vs, rfl, ha, ea, la⟩ := h.list sb hl
    exact call_len_seq pins s σ H _ us Q I r ⟨p, vs, rfl, .inl (.inl ha), by rw [ea.length]; exact q.val sb hl (.int _)⟩
  · cases e
    obtain ⟨a, rfl, h⟩ := pair1 hp
    obtain ⟨p, vs, rfl, ha, ea, la⟩ := h.tup sb hl
    exact call_len_seq pins s σ H _ us Q I r ⟨p, vs, rfl, .inr (.of ha), by rw [ea.length]; exact q.val sb hl (.int _)⟩
  · cases e
    obtain ⟨a, rfl, h⟩ := pair1 hp
    obtain ⟨p, vs, rfl, ha, ea⟩ := h.scr sb
    exact call_len_seq pins s σ H _ us Q I r ⟨p, vs, rfl, .inl ha, by rw [ea.length]; exact q.val sb hl (.int _)⟩
theorem bi_sum {X : Cx} (hc : X.calm = true) : CallR X (.builtin "sum") (rBi X.K .sum) := by
  intro pins s σ H xs us Q I r h
  obtain ⟨F, ds, o, sb, hl, hp, e, q⟩ := h
  unfold biD at e
  split at e <;> rename_i hb <;> try (first | (cases hb; done) | (cases e; done))
  rw [Option.map_eq_some_iff] at e
  obtain ⟨ns, e1, rfl⟩ := e
  have e1 := intsD_map e1
  subst e1
  obtain ⟨a, rfl, h⟩ := pair1 hp
  obtain ⟨p, vs, rfl, ha, ea, la⟩ := h.list sb hl
  cases ea.ints
  exact cr_sum hc pins s σ H _ us Q I r ⟨p, ns, rfl, .inl ha, q.val sb hl (.int _)⟩
theorem bi_all {X : Cx} (hc : X.calm = true) : CallR X (.builtin "all") (rBi X.K .all) := by
  intro pins s σ H xs us Q I r h
  obtain ⟨F, ds, o, sb, hl, hp, e, q⟩ := h
  unfold biD at e
  split at e <;> rename_i hb <;> try (first | (cases hb; done) | (cases e; done))
  rw [Option.map_eq_some_iff] at e
  obtain ⟨ns, e1, rfl⟩ := e
  have e1 := boolsD_map e1
  subst e1
  obtain ⟨a, rfl, h⟩ := pair1 hp
  obtain ⟨p, vs, rfl, ha, ea, la⟩ := h.list sb hl
  cases ea.bools
  exact cr_all hc pins s σ H _ us Q I r ⟨p, ns, rfl, .inl ha, q.val sb hl (.bl _)⟩
theorem bi_any {X : Cx} (hc : X.calm = true) : CallR X (.builtin "any") (rBi X.K .any) := by
  intro pins s σ H xs us Q I r h
  obtain ⟨F, ds, o, sb, hl, hp, e, q⟩ := h
  unfold biD at e
  split at e <;> rename_i hb <;> try (first | (cases hb; done) | (cases e; done))
  rw [Option.map_eq_some_iff] at e
  obtain ⟨ns, e1, rfl⟩ := e
  have e1 := boolsD_map e1
  subst e1
  obtain ⟨a, rfl, h⟩ := pair1 hp
  obtain ⟨p, vs, rfl, ha, ea, la⟩ := h.list sb hl
  cases ea.bools
  exact cr_any hc pins s σ H _ us Q I r ⟨p, ns, rfl, .inl ha, q.val sb hl (.bl _)⟩
theorem bi_tuple {X : Cx} : CallR X (.type "tuple") (rBi X.K .tuple) := by
  intro pins s σ H xs us Q I r h
  obtain ⟨F, ds, o, sb, hl, hp, e, q⟩ := h
  unfold biD at e
  split at e <;> rename_i hb <;> try (first | (cases hb; done) | (cases e; done))
  · cases e
    obtain ⟨a, rfl, h⟩ := pair1 hp
    obtain ⟨p, vs, rfl, ha, ea, la⟩ := h.list sb hl
    exact call_tuple_of pins s σ H _ us Q I r ⟨p, vs, rfl, .inl ⟨.inl ha, q.tup sb hl ea la⟩⟩
  · cases e
    obtain ⟨a, rfl, h⟩ := pair1 hp
    rename_i ys
    have hx : At X.K F a (.tuple ys) := by
      rcases h with h | ⟨_, _, _, _, e, _⟩
      · exact h
      · cases e
    obtain ⟨p, vs, rfl, ha, ea, la⟩ := h.tup sb hl
    exact call_tuple_of pins s σ H _ us Q I r ⟨p, vs, rfl, .inr ⟨.of ha, q.val sb hl hx⟩⟩
theorem bi_list {X : Cx} : CallR X (.type "list") (rBi X.K .list) := by
  intro pins s σ H xs us Q I r h
  obtain ⟨F, ds, o, sb, hl, hp, e, q⟩ := h
  unfold biD at e
  split at e <;> rename_i hb <;> try (first | (cases hb; done) | (cases e; done))
  · cases e
    obtain ⟨a, rfl, h⟩ := pair1 hp
    obtain ⟨p, vs, rfl, ha, ea, la⟩ := h.list sb hl
    exact call_list_of pins s σ H _ us Q I r ⟨p, vs, rfl, .inl (.inl ha), q.lst sb hl ea la⟩
  · cases e
    obtain ⟨a, rfl, h⟩ := pair1 hp
    obtain ⟨p, vs, rfl, ha, ea, la⟩ := h.tup sb hl
    exact call_list_of pins s σ H _ us Q I r ⟨p, vs, rfl, .inr (.of ha), q.lst sb hl ea la⟩
theorem bi_int {X : Cx} : CallR X (.type "int") (rBi X.K .int) := by
  intro pins s σ H xs us Q I r h
  obtain ⟨F, ds, o, sb, hl, hp, e, q⟩ := h
  unfold biD at e
  split at e <;> rename_i hb <;> try (first | (cases hb; done) | (cases e; done))
  · cases e
    obtain ⟨a, rfl, h⟩ := pair1 hp
    cases h.int
    exact call_int1 pins s σ H _ us Q I r (.inl ⟨_, rfl, q.val sb hl (.int _)⟩)
  · cases e
    obtain ⟨a, rfl, h⟩ := pair1 hp
    cases h.bool
    exact call_int1 pins s σ H _ us Q I r (.inr ⟨_, rfl, q.val sb hl (.int _)⟩)
theorem bi_abs {X : Cx} : CallR X (.builtin "abs") (rBi X.K .abs) := by
  intro pins s σ H xs us Q I r h
  obtain ⟨F, ds, o, sb, hl, hp, e, q⟩ := h
  unfold biD at e
  split at e <;> rename_i hb <;> try (first | (cases hb; done) | (cases e; done))
  cases e
  obtain ⟨a, rfl, h⟩ := pair1 hp
  cases h.int
  exact call_abs pins s σ H _ us Q I r ⟨_, rfl, q.val sb hl (.int _)⟩
theorem bi_min2 {X : Cx} (hc : X.calm = true) : CallR X (.builtin "min") (rBi X.K .min2) := by
  intro pins s σ H xs us Q I r h
  obtain ⟨F, ds, o, sb, hl, hp, e, q⟩ := h
  unfold biD at e
  split at e <;> rename_i hb <;> try (first | (cases hb; done) | (cases e; done))
  cases e
  obtain ⟨a, a', rfl, h, h'⟩ := pair2 hp
  cases h.int; cases h'.int
  exact call_min2 hc pins s σ H _ us Q I r ⟨_, _, rfl, q.val sb hl (.int _)⟩
theorem bi_max2 {X : Cx} (hc : X.calm = true) : CallR X (.builtin "max") (rBi X.K .max2) := by
  intro pins s σ H xs us Q I r h
  obtain ⟨F, ds, o, sb, hl, hp, e, q⟩ := h
  unfold biD at e
  split at e <;> rename_i hb <;> try (first | (cases hb; done) | (cases e; done))
  cases e
  obtain ⟨a, a', rfl, h, h'⟩ := pair2 hp
  cases h.int; cases h'.int
  exact call_max2 hc pins s σ H _ us Q I r ⟨_, _, rfl, q.val sb hl (.int _)⟩
theorem foldMin : ∀ (l : List Int) (a : Int), (l.foldl minI a = a ∨ l.foldl minI a ∈ l) ∧ l.foldl minI a ≤ a ∧ ∀ y ∈ l, l.foldl minI a ≤ y
  | [], a => ⟨.inl rfl, Int.le_refl _, fun _ h => nomatch h⟩
  | b :: l, a => by
    have ih := foldMin l (minI a b)
    have e : minI a b = a ∧ a ≤ b ∨ minI a b = b ∧ b ≤ a := by
      unfold minI; split
      · exact .inr ⟨rfl, by omega⟩
      · exact .inl ⟨rfl, by omega⟩
    simp only [List.foldl_cons, List.mem_cons]
    refine ⟨?_, ?_, ?_⟩
    · rcases ih.1 with h | h
      · rcases e with ⟨e, _⟩ | ⟨e, _⟩
        · left; rw [h, e]
        · right; left; rw [h, e]
      · right; right; exact h
    · omega
    · intro y hy
      rcases hy with rfl | hy
      · omega
      · exact ih.2.2 y hy
theorem foldMax : ∀ (l : List Int) (a : Int), (l.foldl maxI a = a ∨ l.foldl maxI a ∈ l) ∧ a ≤ l.foldl maxI a ∧ ∀ y ∈ l, y ≤ l.foldl maxI a
  | [], a => ⟨.inl rfl, Int.le_refl _, fun _ h => nomatch h⟩
  | b :: l, a => by
    have ih := foldMax l (maxI a b)
    have e : maxI a b = a ∧ b ≤ a ∨ maxI a b = b ∧ a ≤ b := by
      unfold maxI; split
      · exact .inr ⟨rfl, by omega⟩
      · exact .inl ⟨rfl, by omega⟩
    simp only [List.foldl_cons, List.mem_cons]
    refine ⟨?_, ?_, ?_⟩
    · rcases ih.1 with h | h
      · rcases e with ⟨e, _⟩ | ⟨e, _⟩
        · left; rw [h, e]
        · right; left; rw [h, e]
      · right; right; exact h
    · omega
    · intro y hy
      rcases hy with rfl | hy
      · omega
      · exact ih.2.2 y hy
theorem bi_min1 {X : Cx} (hc : X.calm = true) : CallR X (.builtin "min") (rBi X.K .min1) := by
  intro pins s σ H xs us Q I r h
  obtain ⟨F, ds, o, sb, hl, hp, e, q⟩ := h
  unfold biD at e
  split at e <;> rename_i hb <;> try (first | (cases hb; done) | (cases e; done))
  simp only [Option.bind_eq_some_iff, Option.map_eq_some_iff] at e
  obtain ⟨ns, e1, m, e2, rfl⟩ := e
  have e1 := intsD_map e1
  subst e1
  obtain ⟨a, rfl, h⟩ := pair1 hp
  obtain ⟨p, vs, rfl, ha, ea, la⟩ := h.list sb hl
  cases ea.ints
  cases ns with
  | nil => cases e2
  | cons b l =>
    cases e2
    have f := foldMin l b
    refine cr_min hc pins s σ H _ us Q I r ⟨p, b :: l, rfl, .inl ha, by simp, fun m hm hle => ?_⟩
    have : m = l.foldl minI b := by
      have h1 := f.1
      have h2 : m ≤ l.foldl minI b := by
        rcases h1 with h | h
        · rw [h]; exact hle b (by simp)
        · exact hle _ (by simp [h])
      have h3 : l.foldl minI b ≤ m := by
        rcases List.mem_cons.mp hm with rfl | hm
        · exact f.2.1
        · exact f.2.2 m hm
      omega
    rw [this]
    exact q.val sb hl (.int _)
theorem bi_max1 {X : Cx} (hc : X.calm = true) : CallR X (.builtin "max") (rBi X.K .max1) := by
  intro pins s σ H xs us Q I r h
  obtain ⟨F, ds, o, sb, hl, hp, e, q⟩ := h
  unfold biD at e
  split at e <;> rename_i hb <;> try (first | (cases hb; done) | (cases e; done))
  simp only [Option.bind_eq_some_iff, Option.map_eq_some_iff] at e
  obtain ⟨ns, e1, m, e2, rfl⟩ := e
  have e1 := intsD_map e1
  subst e1
  obtain ⟨a, rfl, h⟩ := pair1 hp
  obtain ⟨p, vs, rfl, ha, ea, la⟩ := h.list sb hl
  cases ea.ints
  cases ns with
  | nil => cases e2
  | cons b l =>
    cases e2
    have f := foldMax l b
    refine cr_max hc pins s σ H _ us Q I r ⟨p, b :: l, rfl, .inl ha, by simp, fun m hm hle => ?_⟩
    have : m = l.foldl maxI b := by
      have h1 := f.1
      have h2 : l.foldl maxI b ≤ m := by
        rcases h1 with h | h
        · rw [h]; exact hle b (by simp)
        · exact hle _ (by simp [h])
      have h3 : m ≤ l.foldl maxI b := by
        rcases List.mem_cons.mp hm with rfl | hm
        · exact f.2.1
        · exact f.2.2 m hm
      omega
    rw [this]
    exact q.val sb hl (.int _)
/-- an item stands for data -/
def ItAt (K : PySem.W.Frag) (F : Hp) (u : Value) (d : D) : Prop := ∃ v, At K F v d ∧ RelV v u
theorem each_of {us : List Value} : ∀ {ds : List D} {vs : List V}, AtAll K F vs ds → Vals vs us → PySem.W.EachIs (ItAt K F) us ds := by
  induction us with
  | nil => intro ds vs h r; cases r; cases h; exact .nil
  | cons u us ih =>
    intro ds vs h r
    cases r with
    | cons r1 r2 =>
      cases h with
      | cons h1 h2 => exact .cons ⟨_, h1, r1⟩ (ih h2 r2)
theorem of_each {us : List Value} : ∀ {ds : List D}, PySem.W.EachIs (ItAt K F) us ds → ∃ vs, Vals vs us ∧ AtAll K F vs ds := by
  induction us with
  | nil => intro ds h; cases h; exact ⟨[], .nil, .nil⟩
  | cons u us ih =>
    intro ds h
    cases h with
    | cons h1 h2 =>
      obtain ⟨v, a, r⟩ := h1
      obtain ⟨vs, r2, a2⟩ := ih h2
      exact ⟨v :: vs, .cons r r2, .cons a a2⟩
theorem depth_mem {ds : List D} {d : D} (h : d ∈ ds) : d.depth ≤ PyData.depthAll ds := by
  induction ds with
  | nil => cases h
  | cons e ds ih =>
    simp only [PyData.depthAll]
    rcases List.mem_cons.mp h with rfl | h
    · omega
    · have := ih h; omega
theorem sortB_ok {ds : List D} (h : sortB ds = true) : Fs.SortOk ds := by
  unfold sortB at h
  rw [Bool.or_eq_true, Bool.or_eq_true] at h
  rcases h with h | h | h
  · rw [List.all_eq_true] at h
    refine .inl (.inl fun d hd => ?_)
    have := h d hd
    split at this
    · exact ⟨_, _, rfl⟩
    · cases this
  · rw [List.all_eq_true] at h
    refine .inl (.inr fun d hd => ?_)
    have := h d hd
    split at this
    · cases this
    · cases this
    · rename_i n1 n2
      exact ⟨fun e => n1 e, fun xs e => n2 xs e⟩
  · refine .inr ?_
    match ds, h with
    | .tuple [] :: r, h =>
      have h' : (r.all fun d => match d with | .tuple _ => true | _ => false) = true := h
      rw [List.all_eq_true] at h'
      refine ⟨fun d hd => ?_, r, rfl⟩
      rcases List.mem_cons.mp hd with rfl | hd
      · exact ⟨[], rfl⟩
      · have := h' d hd
        split at this
        · exact ⟨_, rfl⟩
        · cases this
theorem bi_sorted {X : Cx} (hu : X.A.units + 65 < cLine) : CallR X (.builtin "sorted") (rBi X.K .sorted) := by
  intro pins s σ H xs us Q I r h
  obtain ⟨F, ds, o, sb, hl, hp, e, q⟩ := h
  unfold biD at e
  split at e <;> rename_i hb <;> try (first | (cases hb; done) | (cases e; done))
  split at e
  · rename_i ds hcond
    cases e
    simp only [Bool.and_eq_true, decide_eq_true_eq] at hcond
    obtain ⟨hal, hso, hde⟩ := hcond
    obtain ⟨a, rfl, h⟩ := pair1 hp
    obtain ⟨p, vs, rfl, ha, ea, la⟩ := h.list sb hl
    obtain ⟨lv, its, n, rv, eh⟩ := rd_list I ha
    rw [Vals.ref1 r]
    have hAl : PySem.W.AllAlike (ds.map id) := by
      rw [List.map_id]
      unfold alikeB at hal
      simp only [List.all_eq_true] at hal
      exact hal
    have each := each_of ea rv
    have reads : PySem.W.EachIs (fun v b => ∃ as, PySem.Reads s.heap v (id b) as) its ds := by
      have g : ∀ {us : List Value} {ds : List D}, (∀ d ∈ ds, ndD d = true) → PySem.W.EachIs (ItAt X.K F) us ds → PySem.W.EachIs (fun v b => ∃ as, PySem.Reads s.heap v (id b) as) us ds := by
        intro us
        induction us with
        | nil => intro ds hn h; cases h; exact .nil
        | cons u us ih =>
          intro ds hn h
          cases h with
          | cons h1 h2 =>
            obtain ⟨v, a, r⟩ := h1
            exact .cons (Dp.reads I _ v u (At.dp sb _ _ (hn _ (by simp)) a) r) (ih (fun d hd => hn d (by simp [hd])) h2)
      refine g (fun d hd => nd_alike d ?_) each
      have := hAl d (by simpa using hd) d (by simpa using hd)
      exact this
    have lds : ds.length ≤ sizeLine := la
    refine Fs.sorted_any (R := ItAt X.K F) (enc := id) (vs := its) (bs := ds) ⟨_, eh, rfl, _, rfl⟩ each reads hAl (by rw [List.map_id]; exact sortB_ok hso) lds (fun b hb => ?_) (fun out ho eo => ?_)
    · have h1 := depth_mem hb
      simp only [PyData.depth] at hde
      simp only [id]
      omega
    · obtain ⟨ws, r2, a2⟩ := of_each eo
      obtain ⟨ep, he'⟩ := PyProof.Rows.sortedAll_at s.heap its out.toArray
      have hz : (sortD ds).length ≤ sizeLine := by unfold sortD; rw [List.length_mergeSort]; exact lds
      have hfr : H (s.heap.objs.size + 1) = none := I.hok.fresh (Nat.le_succ _)
      have lw : ws.length ≤ sizeLine := by rw [a2.length]; exact hz
      exact ⟨.ref _, upd H (s.heap.objs.size + 1) (.lst ws), I.laid (t' := s.toks) (fun _ _ => PyProof.Rows.sortedAll_old) (Nat.le_succ _) ⟨lw, out, ep, r2, he'⟩, rfl, q.lst sb hl a2 hz _ hfr⟩
  · cases e
/-- the class of data -/
def clsOf : D → String
  | .none => "NoneType" | .bool _ => "bool" | .int _ => "int" | .str _ => "str" | .list _ => "list" | .tuple _ => "tuple" | .dict _ => "dict"
theorem Vw.tyx (sb : Sub F H) (l : HLen F) {v : V} {d : D} (nd : ∀ kvs, d ≠ .dict kvs) (h : Vw K F H v d) : TyX K H v (.type (clsOf d)) := by
  cases d with
  | none => cases h.non; exact .base .non
  | bool b => cases h.bool; exact .base (.bl _)
  | int i => cases h.int; exact .base (.int _)
  | str x => cases h.str; exact .base (.str _)
  | list xs =>
    obtain ⟨a, vs, rfl, ha, _⟩ := h.list sb l
    rcases ha with ha | ⟨o, ha⟩
    · exact .base (.lst ha)
    · exact .base (.frz ha)
  | tuple xs =>
    obtain ⟨a, vs, rfl, ha, _⟩ := h.tup sb l
    exact .base (.tup ha)
  | dict kvs => exact absurd rfl (nd kvs)
def biT : Bi → Option String
  | .isInt => some "int" | .isBool => some "bool" | .isTup => some "tuple" | .isStr => some "str" | _ => none
def isD (t : String) (d : D) : Bool := match kitB (clsOf d) t with
  | some b => b
  | none => false
theorem bi_isi {X : Cx} {b : Bi} {t : String} (hb : biT b = some t) : CallR X (.builtin "isinstance") (fun vs H Q => ∃ v, vs = [v, .ty t] ∧ rBi X.K b [v] H Q) := by
  intro pins s σ H xs us Q I r h
  obtain ⟨v, rfl, F, ds, o, sb, hl, hp, e, q⟩ := h
  have one : ∃ d, ds = [d] := by
    cases ds with
    | nil => cases hp
    | cons d ds => cases hp with | cons h1 h2 => cases h2; exact ⟨d, rfl⟩
  obtain ⟨d, rfl⟩ := one
  obtain ⟨a, ea, h⟩ := pair1 hp
  cases ea
  have key : ∃ k, kitB (clsOf d) t = some k ∧ o = .v (.bool k) ∧ ∀ kvs, d ≠ .dict kvs := by
    cases b <;> simp [biT] at hb <;> subst hb <;> cases d <;> (simp only [biD] at e; cases e; try exact ⟨_, (by simp only [clsOf]; decide +kernel), rfl, fun _ z => nomatch z⟩)
  obtain ⟨k, ek, rfl, nd⟩ := key
  exact call_isi pins s σ H _ us Q I r ⟨v, .ty t, .type (clsOf d), .type t, k, rfl, .ty t, h.tyx sb hl nd, kit_ty ek, q.val sb hl (.bl _)⟩
theorem minD_mem : ∀ (xs : List D) (x : D), PySem.W.minD x xs ∈ x :: xs
  | [], x => by simp [PySem.W.minD]
  | y :: xs, x => by
    have ih := minD_mem xs (if PySem.W.dataLt y x = true then y else x)
    have e : PySem.W.minD x (y :: xs) = PySem.W.minD (if PySem.W.dataLt y x = true then y else x) xs := rfl
    rw [e]
    rcases List.mem_cons.mp ih with h | h
    · rw [h]; split <;> simp
    · exact List.mem_cons_of_mem _ (List.mem_cons_of_mem _ h)
theorem bi_minT {X : Cx} (hc : X.calm = true) (hu : X.A.units + 65 < cLine) : CallR X (.builtin "min") (rBi X.K .minT) := by
  intro pins s σ H xs us Q I r h
  obtain ⟨F, ds, o, sb, hl, hp, e, q⟩ := h
  unfold biD at e
  split at e <;> rename_i hb <;> try (first | (cases hb; done) | (cases e; done))
  split at e
  · rename_i x0 xr hcond
    cases e
    simp only [Bool.and_eq_true, decide_eq_true_eq] at hcond
    obtain ⟨hal, hnn, hde⟩ := hcond
    obtain ⟨a, rfl, h⟩ := pair1 hp
    obtain ⟨p, vs, rfl, ha, ea, la⟩ := h.list sb hl
    obtain ⟨lv, its, n, rv, eh⟩ := rd_list I ha
    rw [Vals.ref1 r]
    have hAl : PySem.W.AllAlike (x0 :: xr) := by
      unfold alikeB at hal
      simp only [List.all_eq_true] at hal
      exact hal
    have hN : ∀ d ∈ x0 :: xr, d ≠ .none := fun d hd e => by
      unfold nonN at hnn
      rw [List.all_eq_true] at hnn
      have := hnn d hd
      rw [e] at this; cases this
    have each := each_of ea rv
    have g : ∀ {us : List Value} {ds : List D}, (∀ d ∈ ds, ndD d = true) → PySem.W.EachIs (ItAt X.K F) us ds → ∃ as, PySem.ReadsAll s.heap us ds as := by
      intro us
      induction us with
      | nil => intro ds hn h; cases h; exact ⟨_, .nil⟩
      | cons u us ih =>
        intro ds hn h
        cases h with
        | cons h1 h2 =>
          obtain ⟨v, a, r⟩ := h1
          obtain ⟨as, q⟩ := ih (fun d hd => hn d (by simp [hd])) h2
          have := Dp.reads I _ v u (At.dp sb _ _ (hn _ (by simp)) a) r
          exact ⟨_, .cons this.choose_spec q⟩
    have hnd : ∀ d ∈ x0 :: xr, ndD d = true := fun d hd => nd_alike d (hAl d hd d hd)
    obtain ⟨as, reads⟩ := g hnd each
    refine PySem.W.min_list_data (I.ok.hd hc) ⟨_, eh, rfl, _, rfl⟩ reads ⟨fun x hx y hy => hAl x hx y hy, hN⟩ ?_ fun i v h' tk bs hi rd hk => ?_
    · simp only [PyData.depth] at hde
      omega
    · have hv : v ∈ its := by
        have : its[i]? = some v := by simpa using hi
        exact List.mem_of_getElem? this
      obtain ⟨d, hd, w, aw, rw'⟩ := each.left v hv
      have rd0 := Dp.reads I _ w v (At.dp sb _ _ (hnd d hd) aw) rw'
      obtain ⟨as0, rd0⟩ := rd0
      have de : d = PySem.W.minD x0 xr := PySem.W.alike_unique d _ v as0 bs (hAl d hd _ (minD_mem xr x0)) (PyProof.Rows.Reads.keeps hk rd0) rd
      rw [← de] at q
      exact ⟨w, H, I.kept (t' := tk) hk, rw', q.val sb hl aw⟩
  · cases e
end Sn

namespace Sn
open PySem PySem.Spec L2
variable {K : PySem.W.Frag} {F F' H H' G : Hp} {z : Pz} {ρ ρ' : List Sl} {σ σ' : St} {W : Str → St → Hp → Prop} {Φ : Nat → List D → Out} {α β : Type}

/-- an operand -/
theorem rd_opd {a : Ex} {f : R → List Sl → Res β} {P : β → List Sl → Hp → Hp → Prop} {Q : VK} (R : Rep K G z F ρ σ H) (h : Evs K G z W σ F (bnd (evE Φ a ρ) fun x ρ => bnd (opr x ρ) f) P)
    (k : ∀ r ρ1 F1 H1 v, Sub F F1 → Rep K G z F1 ρ1 σ H1 → OOk K F1 σ r v → Evs K G z W σ F1 (f r ρ1) P → Q v H1) : rdE K W Φ a σ H Q :=
  ⟨G, z, F, ρ, R, Evs.seq h fun r ρ1 F1 H1 s1 R1 h1 v hv => by
    obtain ⟨r', F2, s2, R2, o, h2⟩ := R1.opr hv h1
    exact k r' ρ1 F2 H1 v (s1.trans s2) R2 o h2⟩
/-- a value that is kept -/
theorem rd_frz {a : Ex} {f : D → List Sl → Res β} {P : β → List Sl → Hp → Hp → Prop} {Q : VK} (R : Rep K G z F ρ σ H) (h : Evs K G z W σ F (bnd (evE Φ a ρ) fun x ρ => bnd (frz x ρ) f) P)
    (k : ∀ d ρ1 F1 H1 v, Sub F F1 → Rep K G z F1 ρ1 σ H1 → At K F1 v d → Evs K G z W σ F1 (f d ρ1) P → Q v H1) : rdE K W Φ a σ H Q :=
  ⟨G, z, F, ρ, R, Evs.seq h fun r ρ1 F1 H1 s1 R1 h1 v hv => by
    obtain ⟨d, ρ2, F2, s2, R2, o, h2⟩ := R1.frz hv h1
    exact k d ρ2 F2 H1 v (s1.trans s2) R2 o h2⟩
theorem rd_frzE {a : Ex} {P : D → List Sl → Hp → Hp → Prop} {Q : VK} (R : Rep K G z F ρ σ H) (h : Evs K G z W σ F (bnd (evE Φ a ρ) fun x ρ => frz x ρ) P)
    (k : ∀ d ρ1 F1 H1 v, Sub F F1 → Rep K G z F1 ρ1 σ H1 → At K F1 v d → P d ρ1 F1 H1 → Q v H1) : rdE K W Φ a σ H Q :=
  ⟨G, z, F, ρ, R, Evs.seq h fun r ρ1 F1 H1 s1 R1 h1 v hv => by
    obtain ⟨d, ρ2, F2, s2, R2, o, h2⟩ := R1.frzE hv h1
    exact k d ρ2 F2 H1 v (s1.trans s2) R2 o h2⟩
/-- any result -/
theorem rd_any {a : Ex} {f : R → List Sl → Res β} {P : β → List Sl → Hp → Hp → Prop} {Q : VK} (R : Rep K G z F ρ σ H) (h : Evs K G z W σ F (bnd (evE Φ a ρ) f) P)
    (k : ∀ r ρ1 F1 H1 v, Sub F F1 → Rep K G z F1 ρ1 σ H1 → ROk K G F1 H1 ρ1 σ r v → Evs K G z W σ F1 (f r ρ1) P → Q v H1) : rdE K W Φ a σ H Q :=
  ⟨G, z, F, ρ, R, Evs.seq h fun r ρ1 F1 H1 s1 R1 h1 v hv => k r ρ1 F1 H1 v s1 R1 hv h1⟩
theorem rd_test {a : Ex} {f : Bool → List Sl → Res β} {P : β → List Sl → Hp → Hp → Prop} {Q : Bool → Hp → Prop} (R : Rep K G z F ρ σ H) (h : Evs K G z W σ F (bnd (evE Φ a ρ) fun x ρ => bnd (toB x ρ) f) P)
    (k : ∀ b ρ1 F1 H1, Sub F F1 → Rep K G z F1 ρ1 σ H1 → Evs K G z W σ F1 (f b ρ1) P → Q b H1) : rdT K W Φ a σ H Q := by
  refine ⟨G, z, F, ρ, R, ?_⟩
  cases q : evE Φ a ρ with
  | no => rw [q] at h; exact h
  | ex c ρ' => rw [q] at h; exact h
  | ok r ρ' =>
    rw [q] at h
    simp only [bnd_ok] at h ⊢
    obtain ⟨b, rfl, h⟩ := toB_some h
    exact fun F1 H1 s1 R1 => k b ρ' F1 H1 s1 R1 (Evs.mono s1 h)

/-- an object of one's own has changed -/
theorem Rep.put (P : Rep K G z F ρ σ H) {i : Nat} {f : Bool} {c c' : C} {a : Addr} {o : HO} (e : ρ[i]? = some (.ow f c)) (ea : σ[i]? = some (some (.ref a))) (hn : COk K F (upd H a o) a c') : Rep K G z F (ρ.set i (.ow f c')) σ (upd H a o) := by
  obtain ⟨b, h1, h2, h3, h4, h5⟩ := P.ow e
  rw [ea] at h1; cases h1
  have l : i < ρ.length := (List.getElem?_eq_some_iff.mp e).1
  have own : ∀ j x, Own (ρ.set i (.ow f c')) σ j x → Own ρ σ j x := fun j x o => by
    obtain ⟨g, d, q1, q2⟩ := o
    by_cases n : i = j
    · subst n; exact ⟨f, c, e, q2⟩
    · rw [List.getElem?_set_ne n] at q1; exact ⟨g, d, q1, q2⟩
  refine ⟨by simpa using P.len, fun b u q => ?_, fun b u q => ?_, P.fg, P.hl, fun j t q => ?_, fun j k x h1 h2 => P.ap j k x (own j x h1) (own k x h2), P.gt⟩
  · rw [upd_ne (by rintro rfl; rw [h3] at q; cases q)]; exact P.fh _ _ q
  · rw [upd_ne (by rintro rfl; rw [h4] at q; cases q)]; exact P.gh _ _ q
  · by_cases n : i = j
    · subst n
      rw [List.getElem?_set_self l] at q
      cases q
      exact ⟨_, ea, a, rfl, h2, h3, h4, hn⟩
    · rw [List.getElem?_set_ne n] at q
      obtain ⟨o', q1, q2⟩ := P.sl j t q
      refine ⟨o', q1, ?_⟩
      cases t with
      | un => trivial
      | v d => exact q2
      | ow g d =>
        obtain ⟨x, q3, q4, q5, q6, q7⟩ := q2
        have nx : x ≠ a := by
          rintro rfl
          exact n (P.ap i j x ⟨_, _, e, ea⟩ ⟨_, _, q, by rw [q1, q3]⟩)
        exact ⟨x, q3, q4, q5, q6, COk.mono .refl (upd_ne nx) q7⟩
      | lk => exact q2

section
variable {X : Cx} {a b c : Expr} {x y w : Ex} {pos : Pos}
theorem snd_var {i : Nat} {n : Str} (hN : X.N[i]? = some n) (hv : Vis X.env.scope n) (hd : (n == ("__debug__" : Str)) = false) (hc : (n == ("__classdict__" : Str)) = false) : PE X (.Name n pos) (rdE X.K W Φ (.var i)) := by
  refine PE.imp (pe_var hN hv hd hc) fun σ H Q ⟨G, z, F, ρ, R, h⟩ => ?_
  simp only [evE] at h
  split at h
  · rename_i d e
    obtain ⟨v, h1, h2⟩ := R.va e
    exact ⟨v, h1, Evs.here h R v h2⟩
  · rename_i f c e
    obtain ⟨a, h1, _⟩ := R.ow e
    exact ⟨_, h1, Evs.here h R _ h1⟩
  · exact h.elim
theorem snd_val {e : Expr} {v : V} {d : D} (h : PE X e (tC v)) (hv : ∀ F, At X.K F v d) : PE X e (rdE X.K W Φ (.lit d)) := by
  refine PE.imp h fun σ H Q ⟨G, z, F, ρ, R, h⟩ => ?_
  simp only [evE] at h
  exact Evs.here h R v (hv F)
theorem snd_bin {o : Bop} (ha : PE X a (rdE X.K W Φ x)) (hb : PE X b (rdE X.K W Φ y)) : PE X (.BinOp a (opO o) b pos) (rdE X.K W Φ (.bin o x y)) := by
  refine PE.imp (pe_op (op_bin o) ha hb) fun σ H Q ⟨G, z, F, ρ, R, h⟩ => ?_
  simp only [evE] at h
  refine rd_opd R h fun r ρ1 F1 H1 v s1 R1 o1 h => rd_opd R1 h fun t ρ2 F2 H2 u s2 R2 o2 h => ?_
  obtain ⟨dx, e1, h⟩ := h.opt
  obtain ⟨dy, e2, h⟩ := h.opt
  obtain ⟨r, e3, h⟩ := h.optE
  exact ⟨F2, dx, dy, r, R2.fh, R2.hl, R2.ovw (o1.mono s2) e1, R2.ovw o2 e2, e3, fun F' H' u S n => h F' H' S.ff (R2.stp S) u (R2.rnw S n)⟩
theorem snd_neg (ha : PE X a (rdE X.K W Φ x)) : PE X (.UnaryOp .USub a pos) (rdE X.K W Φ (.neg x)) := by
  refine PE.imp (pe_un un_neg ha) fun σ H Q ⟨G, z, F, ρ, R, h⟩ => ?_
  simp only [evE] at h
  refine rd_any R h fun r ρ1 F1 H1 v s1 R1 o1 h => ?_
  split at h
  · cases (show At X.K F1 v (.int _) from o1)
    exact ⟨_, rfl, Evs.here h R1 _ (.int _)⟩
  · exact h.elim
theorem snd_not (ha : PE X a (rdE X.K W Φ x)) : PE X (.UnaryOp .Not a pos) (rdE X.K W Φ (.not x)) := by
  refine PE.imp (pe_not ha) fun σ H Q ⟨G, z, F, ρ, R, h⟩ => ?_
  simp only [evE] at h
  refine rd_any R h fun r ρ1 F1 H1 v s1 R1 o1 h => ?_
  obtain ⟨c, rfl, h⟩ := toB_some h
  cases (show At X.K F1 v (.bool _) from o1)
  exact ⟨_, rfl, Evs.here h R1 _ (.bl _)⟩
theorem sndT_not (ha : PT X a (rdT X.K W Φ x)) : PT X (.UnaryOp .Not a pos) (rdT X.K W Φ (.not x)) := by
  refine PT.imp (pt_not ha) fun σ H Q ⟨G, z, F, ρ, R, h⟩ => ?_
  simp only [evE] at h
  have h' : Evs X.K G z W σ F (bnd (evE Φ x ρ) fun x ρ => bnd (toB x ρ) fun b ρ => .ok (!b) ρ) fun b _ _ H' => Q b H' := by
    cases q : evE Φ x ρ with
    | no => rw [q] at h; exact h
    | ex c ρ' => rw [q] at h; exact h
    | ok r ρ' =>
      rw [q] at h
      simp only [bnd_ok] at h ⊢
      cases q2 : toB r ρ' with
      | no => rw [q2] at h; exact h
      | ex c ρ' => rw [q2] at h; exact h
      | ok b ρ2 => rw [q2] at h; exact h
  exact rd_test R h' fun b ρ1 F1 H1 s1 R1 h => Evs.here h R1
/-- a value that is a bool, as a test -/
theorem sndT_val {e : Expr} (h : PE X e (rdE X.K W Φ x)) (he : ∀ whole, isTrue e X.env whole = (do let v ← whole; standAt e.pos; holding [v] (truthy v))) : PT X e (rdT X.K W Φ x) := by
  refine PT.imp (pt_val h he) fun σ H Q ⟨G, z, F, ρ, R, h⟩ => ?_
  refine ⟨G, z, F, ρ, R, Evs.seq h fun r ρ1 F1 H1 s1 R1 h1 v hv => ?_⟩
  obtain ⟨b, rfl, h1⟩ := toB_someE h1
  cases (show At X.K F1 v (.bool _) from hv)
  exact ⟨b, rfl, Evs.here h1 R1⟩
theorem star_of {e : Expr} {es : List Expr} {env : PySem.Env} (h : ∀ v p, e ≠ .Starred v p) : starEach (e :: es) env = (false, eval e env) :: starEach es env := by
  cases e <;> first | rfl | exact absurd rfl (h _ _)
theorem sndA_nil : PA X [] (rdA X.K W Φ .nil) := by
  refine PA.imp pa_nil fun σ H Q ⟨G, z, F, ρ, R, h⟩ => ?_
  simp only [evEs] at h
  exact Evs.here h R [] .nil
theorem sndA_cons {e : Expr} {es : List Expr} {xs : Exs} (h : ∀ v p, e ≠ .Starred v p) (ha : PE X e (rdE X.K W Φ x)) (hs : PA X es (rdA X.K W Φ xs)) : PA X (e :: es) (rdA X.K W Φ (.cons x xs)) := by
  refine PA.imp (pa_cons ha hs (star_of h)) fun σ H Q ⟨G, z, F, ρ, R, h⟩ => ?_
  simp only [evEs] at h
  refine rd_frz R h fun d ρ1 F1 H1 v s1 R1 o1 h => ⟨G, z, F1, ρ1, R1, Evs.seq h fun ds ρ2 F2 H2 s2 R2 h2 vs hvs => ?_⟩
  exact Evs.here h2 R2 _ (.cons (At.mono s2 o1) hvs)
theorem snd_tup {es : List Expr} {xs : Exs} {k : Nat} (h : PA X es (rdA X.K W Φ xs)) : PE X (.Tuple es k pos) (rdE X.K W Φ (.tup xs)) := by
  refine PE.imp (pe_tup h) fun σ H Q ⟨G, z, F, ρ, R, h⟩ => ?_
  simp only [evE] at h
  refine ⟨G, z, F, ρ, R, Evs.seq h fun ds ρ1 F1 H1 s1 R1 h1 vs hvs => ?_⟩
  split at h1
  · rename_i hz
    refine ⟨by rw [hvs.length]; exact hz, fun p n => ?_⟩
    have st : Stp F1 H1 (upd F1 p (.tup vs)) (upd H1 p (.tup vs)) := .tup R1.fh R1.hl n (by rw [hvs.length]; exact hz)
    exact h1 _ _ st.ff (R1.stp st) _ (.tup upd_same (AtAll.mono st.ff hvs))
  · exact h1.elim
theorem snd_lst {es : List Expr} {xs : Exs} (h : PA X es (rdA X.K W Φ xs)) : PE X (.List es pos) (rdE X.K W Φ (.lst xs)) := by
  refine PE.imp (pe_lst h) fun σ H Q ⟨G, z, F, ρ, R, h⟩ => ?_
  simp only [evE] at h
  refine ⟨G, z, F, ρ, R, Evs.seq h fun ds ρ1 F1 H1 s1 R1 h1 vs hvs => ?_⟩
  split at h1
  · rename_i hz
    refine ⟨by rw [hvs.length]; exact hz, fun p n => ?_⟩
    have st : Stp F1 H1 F1 (upd H1 p (.lst vs)) := .new R1.fh R1.hl n
    refine h1 _ _ st.ff (R1.stp st) _ (R1.rnw st (r := .nw (.l ds)) ⟨p, rfl, n, R1.fh.none n, vs, upd_same, hvs, hz⟩)
  · exact h1.elim
theorem snd_ix (hu : X.A.units + 65 < cLine) (ha : PE X a (rdE X.K W Φ x)) (hb : PE X b (rdE X.K W Φ y)) (hs : PlainIx b) : PE X (.Subscript a b pos) (rdE X.K W Φ (.ix x y)) := by
  refine PE.imp (pe_ix (ix_all hu) ha hb hs) fun σ H Q ⟨G, z, F, ρ, R, h⟩ => ?_
  simp only [evE] at h
  refine rd_opd R h fun r ρ1 F1 H1 v s1 R1 o1 h => rd_opd R1 h fun t ρ2 F2 H2 u s2 R2 o2 h => ?_
  obtain ⟨d, e1, h⟩ := h.opt
  exact ⟨G, z, F2, ρ2, σ, r, t, d, R2, o1.mono s2, o2, e1, fun v hv => Evs.here h R2 v hv⟩
def rdO (K : PySem.W.Frag) (W : Str → St → Hp → Prop) (Φ : Nat → List D → Out) (x : Ex) : TO := fun σ H Q => ∃ G z F ρ, Rep K G z F ρ σ H ∧ Evs K G z W σ F (partO (isNil x) (evE Φ x ρ) ρ) fun o _ _ H' => Q o H'
theorem sndO_none : PO X none (rdO X.K W Φ (.lit .none)) := by
  refine ⟨fun pins s σ H Q I ⟨G, z, F, ρ, R, h⟩ => po_none.run pins s σ H Q I ?_⟩
  exact Evs.here (show Evs X.K G z W σ F (.ok none ρ : Res (Option Int)) _ from h) R
theorem sndO_some (ha : PE X a (rdE X.K W Φ x)) (hx : isNil x = false) : PO X (some a) (rdO X.K W Φ x) := by
  refine ⟨fun pins s σ H Q I ⟨G, z, F, ρ, R, h⟩ => (po_some ha).run pins s σ H Q I ?_⟩
  unfold partO at h
  rw [hx, if_neg (by decide)] at h
  refine ⟨G, z, F, ρ, R, Evs.seq h fun r ρ1 F1 H1 s1 R1 h1 v hv => ?_⟩
  unfold toI at h1
  split at h1
  · cases (show At X.K F1 v (.int _) from hv)
    exact ⟨_, rfl, Evs.here h1 R1⟩
  · exact h1.elim
theorem snd_slc {lo hi : Option Expr} {p2 : Pos} (ha : PE X a (rdE X.K W Φ x)) (hl : PO X lo (rdO X.K W Φ y)) (hh : PO X hi (rdO X.K W Φ w)) : PE X (.Subscript a (.Slice lo hi none p2) pos) (rdE X.K W Φ (.slc x y w)) := by
  refine PE.imp (pe_slice sl_all ha hl hh) fun σ H Q ⟨G, z, F, ρ, R, h⟩ => ?_
  simp only [evE] at h
  refine rd_opd R h fun r ρ1 F1 H1 v s1 R1 o1 h => ⟨G, z, F1, ρ1, R1, Evs.seq h fun l ρ2 F2 H2 s2 R2 h => ⟨G, z, F2, ρ2, R2, Evs.seq h fun u ρ3 F3 H3 s3 R3 h => ?_⟩⟩
  obtain ⟨dx, e1, h⟩ := h.opt
  obtain ⟨r', e2, h⟩ := h.optE
  exact ⟨F3, dx, r', R3.fh, R3.hl, R3.ovw (o1.mono (s2.trans s3)) e1, e2, fun F' H' u S n => h F' H' S.ff (R3.stp S) u (R3.rnw S n)⟩
theorem bnd_assoc {γ : Type} (r : Res α) (f : α → List Sl → Res β) (g : β → List Sl → Res γ) : bnd (bnd r f) g = bnd r fun a ρ => bnd (f a ρ) g := by
  cases r <;> rfl
theorem snd_and1 (h : PE X a (rdE X.K W Φ x)) : PE X (.BoolOp .And [a] pos) (rdE X.K W Φ (.and (.cons x .nil))) := by
  refine PE.imp (pe_one h) fun σ H Q ⟨G, z, F, ρ, R, h⟩ => ?_
  simp only [evE, evAnd, bnd_assoc] at h
  refine rd_any R h fun r ρ1 F1 H1 v s1 R1 o1 h => ?_
  obtain ⟨c, rfl, h⟩ := toB_some h
  cases (show At X.K F1 v (.bool _) from o1)
  cases c with
  | true => exact Evs.here h R1 _ (.bl _)
  | false => exact Evs.here h R1 _ (.bl _)
theorem snd_or1 (h : PE X a (rdE X.K W Φ x)) : PE X (.BoolOp .Or [a] pos) (rdE X.K W Φ (.or (.cons x .nil))) := by
  refine PE.imp (pe_one h) fun σ H Q ⟨G, z, F, ρ, R, h⟩ => ?_
  simp only [evE, evOr, bnd_assoc] at h
  refine rd_any R h fun r ρ1 F1 H1 v s1 R1 o1 h => ?_
  obtain ⟨c, rfl, h⟩ := toB_some h
  cases (show At X.K F1 v (.bool _) from o1)
  cases c with
  | true => exact Evs.here h R1 _ (.bl _)
  | false => exact Evs.here h R1 _ (.bl _)
theorem snd_and {es : List Expr} {xs : Exs} (ha : PE X a (rdE X.K W Φ x)) (hb : PE X (.BoolOp .And (b :: es) pos) (rdE X.K W Φ (.and xs))) : PE X (.BoolOp .And (a :: b :: es) pos) (rdE X.K W Φ (.and (.cons x xs))) := by
  refine PE.imp (pe_and ha hb) fun σ H Q ⟨G, z, F, ρ, R, h⟩ => ?_
  simp only [evE, evAnd, bnd_assoc] at h
  refine rd_any R h fun r ρ1 F1 H1 v s1 R1 o1 h => ?_
  obtain ⟨c, rfl, h2⟩ := toB_some h
  cases (show At X.K F1 v (.bool _) from o1)
  refine ⟨c, rfl, ?_⟩
  cases c with
  | true => exact ⟨G, z, F1, ρ1, R1, by simp only [evE]; exact h2⟩
  | false => exact Evs.here h2 R1 _ (.bl _)
theorem snd_or {es : List Expr} {xs : Exs} (ha : PE X a (rdE X.K W Φ x)) (hb : PE X (.BoolOp .Or (b :: es) pos) (rdE X.K W Φ (.or xs))) : PE X (.BoolOp .Or (a :: b :: es) pos) (rdE X.K W Φ (.or (.cons x xs))) := by
  refine PE.imp (pe_or ha hb) fun σ H Q ⟨G, z, F, ρ, R, h⟩ => ?_
  simp only [evE, evOr, bnd_assoc] at h
  refine rd_any R h fun r ρ1 F1 H1 v s1 R1 o1 h => ?_
  obtain ⟨c, rfl, h2⟩ := toB_some h
  cases (show At X.K F1 v (.bool _) from o1)
  refine ⟨c, rfl, ?_⟩
  cases c with
  | true => exact Evs.here h2 R1 _ (.bl _)
  | false => exact ⟨G, z, F1, ρ1, R1, by simp only [evE]; exact h2⟩
/-- the test of a list of tests -/
def rdAnd (K : PySem.W.Frag) (W : Str → St → Hp → Prop) (Φ : Nat → List D → Out) (xs : Exs) : TT := fun σ H Q => ∃ G z F ρ, Rep K G z F ρ σ H ∧ Evs K G z W σ F (evAnd Φ xs ρ) fun b _ _ H' => Q b H'
def rdOr (K : PySem.W.Frag) (W : Str → St → Hp → Prop) (Φ : Nat → List D → Out) (xs : Exs) : TT := fun σ H Q => ∃ G z F ρ, Rep K G z F ρ σ H ∧ Evs K G z W σ F (evOr Φ xs ρ) fun b _ _ H' => Q b H'
theorem sndW_and1 (h : PT X a (rdT X.K W Φ x)) : PW X (.BoolOp .And [a] pos) (rdAnd X.K W Φ (.cons x .nil)) := by
  refine PW.imp (pw_and1 h) fun σ H Q ⟨G, z, F, ρ, R, h⟩ => ?_
  simp only [evAnd] at h
  refine rd_test R h fun b ρ1 F1 H1 s1 R1 h => ?_
  cases b with
  | true => exact Evs.here h R1
  | false => exact Evs.here h R1
theorem sndW_or1 (h : PT X a (rdT X.K W Φ x)) : PW X (.BoolOp .Or [a] pos) (rdOr X.K W Φ (.cons x .nil)) := by
  refine PW.imp (pw_or1 h) fun σ H Q ⟨G, z, F, ρ, R, h⟩ => ?_
  simp only [evOr] at h
  refine rd_test R h fun b ρ1 F1 H1 s1 R1 h => ?_
  cases b with
  | true => exact Evs.here h R1
  | false => exact Evs.here h R1
theorem sndW_and {es : List Expr} {xs : Exs} (ha : PT X a (rdT X.K W Φ x)) (hb : PW X (.BoolOp .And (b :: es) pos) (rdAnd X.K W Φ xs)) : PW X (.BoolOp .And (a :: b :: es) pos) (rdAnd X.K W Φ (.cons x xs)) := by
  refine PW.imp (pw_and ha hb) fun σ H Q ⟨G, z, F, ρ, R, h⟩ => ?_
  simp only [evAnd] at h
  refine rd_test R h fun b ρ1 F1 H1 s1 R1 h => ?_
  cases b with
  | true => exact ⟨G, z, F1, ρ1, R1, h⟩
  | false => exact Evs.here h R1
theorem sndW_or {es : List Expr} {xs : Exs} (ha : PT X a (rdT X.K W Φ x)) (hb : PW X (.BoolOp .Or (b :: es) pos) (rdOr X.K W Φ xs)) : PW X (.BoolOp .Or (a :: b :: es) pos) (rdOr X.K W Φ (.cons x xs)) := by
  refine PW.imp (pw_or ha hb) fun σ H Q ⟨G, z, F, ρ, R, h⟩ => ?_
  simp only [evOr] at h
  refine rd_test R h fun b ρ1 F1 H1 s1 R1 h => ?_
  cases b with
  | true => exact Evs.here h R1
  | false => exact ⟨G, z, F1, ρ1, R1, h⟩
theorem sndT_and {xs : Exs} {e : Expr} (h : PW X e (rdAnd X.K W Φ xs)) : PT X e (rdT X.K W Φ (.and xs)) := by
  refine PT.imp h.pt fun σ H Q ⟨G, z, F, ρ, R, h⟩ => ⟨G, z, F, ρ, R, ?_⟩
  simp only [evE, bnd_assoc] at h
  exact Evs.seq h fun b ρ1 F1 H1 s1 R1 h => Evs.here (show Evs X.K G z W σ F1 (.ok b ρ1 : Res Bool) _ from h) R1
theorem sndT_or {xs : Exs} {e : Expr} (h : PW X e (rdOr X.K W Φ xs)) : PT X e (rdT X.K W Φ (.or xs)) := by
  refine PT.imp h.pt fun σ H Q ⟨G, z, F, ρ, R, h⟩ => ⟨G, z, F, ρ, R, ?_⟩
  simp only [evE, bnd_assoc] at h
  exact Evs.seq h fun b ρ1 F1 H1 s1 R1 h => Evs.here (show Evs X.K G z W σ F1 (.ok b ρ1 : Res Bool) _ from h) R1
theorem snd_ite (hc : PT X c (rdT X.K W Φ w)) (ha : PE X a (rdE X.K W Φ x)) (hb : PE X b (rdE X.K W Φ y)) : PE X (.IfExp c a b pos) (rdE X.K W Φ (.ite w x y)) := by
  refine PE.imp (pe_ifExp hc ha hb) fun σ H Q ⟨G, z, F, ρ, R, h⟩ => ?_
  simp only [evE] at h
  refine rd_test R h fun b ρ1 F1 H1 s1 R1 h => ?_
  cases b with
  | true => exact ⟨G, z, F1, ρ1, R1, h⟩
  | false => exact ⟨G, z, F1, ρ1, R1, h⟩
/-- the rest of a chain behind a value -/
structure PCh (X : Cx) (pos : Pos) (ops : List CmpOp) (es : List Expr) (t : V → TE) : Prop where
  run : ∀ (pins : List (Addr × Obj)) (s : Shared) (σ : St) (H : Hp) (x : V) (v : Value) (Q : VK), Inv X pins σ H s → RelV x v → t x σ H Q →
    wpAny (model X.prog X.w) X.A (compareChain pos v ops (evalEach es X.env)) (EP X pins σ Q) X.xe s
structure PChT (X : Cx) (pos : Pos) (ops : List CmpOp) (es : List Expr) (t : V → TT) : Prop where
  run : ∀ (pins : List (Addr × Obj)) (s : Shared) (σ : St) (H : Hp) (x : V) (v : Value) (Q : Bool → Hp → Prop), Inv X pins σ H s → RelV x v → t x σ H Q →
    wpAny (model X.prog X.w) X.A (testChain pos v ops (evalEach es X.env)) (TP X pins σ Q) X.xe s
def rdL (K : PySem.W.Frag) (W : Str → St → Hp → Prop) (Φ : Nat → List D → Out) (l : Lks) (v : V) : TE := fun σ H Q => ∃ G z F ρ r, Rep K G z F ρ σ H ∧ OOk K F σ r v ∧ Evs K G z W σ F (evL Φ l r ρ) fun b _ _ H' => Q (.bl b) H'
def rdLT (K : PySem.W.Frag) (W : Str → St → Hp → Prop) (Φ : Nat → List D → Out) (l : Lks) (v : V) : TT := fun σ H Q => ∃ G z F ρ r, Rep K G z F ρ σ H ∧ OOk K F σ r v ∧ Evs K G z W σ F (evL Φ l r ρ) fun b _ _ H' => Q b H'
theorem sndL_one (hu : X.A.units + 65 < cLine) {o : Cop} (ha : PE X a (rdE X.K W Φ x)) : PCh X pos [opC o] [a] (rdL X.K W Φ (.one o x)) := by
  refine ⟨fun pins s σ H u v Q I ru ⟨G, z, F, ρ, r, R, o1, h⟩ => ?_⟩
  simp only [evL] at h
  have t : rdE X.K W Φ x σ H fun w H1 => rCmp X.K o u w H1 Q := rd_opd R h fun t ρ2 F2 H2 w s2 R2 o2 h => by
    obtain ⟨b, e, h⟩ := h.optE
    exact ⟨G, z, F2, ρ2, σ, r, t, b, R2, o1.mono s2, o2, e, Evs.here h R2⟩
  exact PyProof.Rows.chain_last (thn (ha.run pins s σ H _ I t) fun w' s4 ⟨w, H4, I4, r4, q4⟩ => op_cmp hu o pins s4 σ H4 u w v w' Q I4 ru r4 q4)
theorem sndL_more (hu : X.A.units + 65 < cLine) {o : Cop} {p : CmpOp} {ops : List CmpOp} {es : List Expr} {l : Lks} (ha : PE X a (rdE X.K W Φ x)) (hl : PCh X pos (p :: ops) (b :: es) (rdL X.K W Φ l)) : PCh X pos (opC o :: p :: ops) (a :: b :: es) (rdL X.K W Φ (.more o x l)) := by
  refine ⟨fun pins s σ H u v Q I ru ⟨G, z, F, ρ, r, R, o1, h⟩ => ?_⟩
  simp only [evL] at h
  have t : rdE X.K W Φ x σ H fun w H1 => rCmp X.K o u w H1 fun c H2 => ∃ k, c = .bl k ∧ if k = true then rdL X.K W Φ l w σ H2 Q else Q (.bl false) H2 := rd_opd R h fun t ρ2 F2 H2 w s2 R2 o2 h => by
    obtain ⟨k, e, h⟩ := h.opt
    refine ⟨G, z, F2, ρ2, σ, r, t, k, R2, o1.mono s2, o2, e, k, rfl, ?_⟩
    cases k with
    | true => exact ⟨G, z, F2, ρ2, t, R2, o2, h⟩
    | false => exact Evs.here (show Evs X.K G z W σ F2 (.ok false ρ2 : Res Bool) _ from h) R2
  refine PyProof.Rows.chain_link (thn (ha.run pins s σ H _ I t) fun w' s1 ⟨w, H1, I1, r1, q1⟩ => thn (op_cmp hu o pins s1 σ H1 u w v w' _ I1 ru r1 q1) fun d s2 ⟨y, H2, I2, r2, k, e, q2⟩ => ?_)
  subst e
  cases r2
  refine wpAny_truthy_bool ?_
  cases k with
  | true => exact hl.run pins s2 σ H2 w w' Q I2 r1 q2
  | false => exact ⟨.bl false, H2, I2, rfl, q2⟩
theorem sndLT_one (hu : X.A.units + 65 < cLine) {o : Cop} (ha : PE X a (rdE X.K W Φ x)) : PChT X pos [opC o] [a] (rdLT X.K W Φ (.one o x)) := by
  refine ⟨fun pins s σ H u v Q I ru ⟨G, z, F, ρ, r, R, o1, h⟩ => ?_⟩
  simp only [evL] at h
  have t : rdE X.K W Φ x σ H fun w H1 => rCmp X.K o u w H1 fun c H2 => ∃ k, c = .bl k ∧ Q k H2 := rd_opd R h fun t ρ2 F2 H2 w s2 R2 o2 h => by
    obtain ⟨b, e, h⟩ := h.optE
    exact ⟨G, z, F2, ρ2, σ, r, t, b, R2, o1.mono s2, o2, e, b, rfl, Evs.here h R2⟩
  refine PyProof.Rows.test_last (thn (ha.run pins s σ H _ I t) fun w' s4 ⟨w, H4, I4, r4, q4⟩ => thn (op_cmp hu o pins s4 σ H4 u w v w' _ I4 ru r4 q4) fun d s2 ⟨y, H2, I2, r2, k, e, q2⟩ => ?_)
  subst e
  cases r2
  exact wpAny_truthy_bool ⟨H2, I2, q2⟩
theorem sndLT_more (hu : X.A.units + 65 < cLine) {o : Cop} {p : CmpOp} {ops : List CmpOp} {es : List Expr} {l : Lks} (ha : PE X a (rdE X.K W Φ x)) (hl : PChT X pos (p :: ops) (b :: es) (rdLT X.K W Φ l)) : PChT X pos (opC o :: p :: ops) (a :: b :: es) (rdLT X.K W Φ (.more o x l)) := by
  refine ⟨fun pins s σ H u v Q I ru ⟨G, z, F, ρ, r, R, o1, h⟩ => ?_⟩
  simp only [evL] at h
  have t : rdE X.K W Φ x σ H fun w H1 => rCmp X.K o u w H1 fun c H2 => ∃ k, c = .bl k ∧ if k = true then rdLT X.K W Φ l w σ H2 Q else Q false H2 := rd_opd R h fun t ρ2 F2 H2 w s2 R2 o2 h => by
    obtain ⟨k, e, h⟩ := h.opt
    refine ⟨G, z, F2, ρ2, σ, r, t, k, R2, o1.mono s2, o2, e, k, rfl, ?_⟩
    cases k with
    | true => exact ⟨G, z, F2, ρ2, t, R2, o2, h⟩
    | false => exact Evs.here (show Evs X.K G z W σ F2 (.ok false ρ2 : Res Bool) _ from h) R2
  refine PyProof.Rows.test_link (thn (ha.run pins s σ H _ I t) fun w' s1 ⟨w, H1, I1, r1, q1⟩ => thn (op_cmp hu o pins s1 σ H1 u w v w' _ I1 ru r1 q1) fun d s2 ⟨y, H2, I2, r2, k, e, q2⟩ => ?_)
  subst e
  cases r2
  refine wpAny_truthy_bool ?_
  cases k with
  | true => exact hl.run pins s2 σ H2 w w' Q I2 r1 q2
  | false => exact ⟨H2, I2, q2⟩
theorem snd_cmp {op : CmpOp} {ops : List CmpOp} {es : List Expr} {l : Lks} (ha : PE X a (rdE X.K W Φ x)) (hl : PCh X pos (op :: ops) (b :: es) (rdL X.K W Φ l)) (hm : lastMarks (op :: ops) (b :: es) = false) : PE X (.Compare a (op :: ops) (b :: es) pos) (rdE X.K W Φ (.cmp x l)) := by
  refine ⟨fun pins s σ H Q I ⟨G, z, F, ρ, R, h⟩ => ?_⟩
  simp only [evE] at h
  show wpAny _ _ (do compareChain pos (← eval a X.env) (op :: ops) (markedEach (op :: ops) (b :: es) (evalEach (b :: es) X.env))) _ _ s
  rw [PyProof.Rows.markedEach_of_false _ _ _ hm]
  have t : rdE X.K W Φ x σ H fun w H1 => rdL X.K W Φ l w σ H1 Q := rd_opd R h fun t ρ2 F2 H2 w s2 R2 o2 h => ⟨G, z, F2, ρ2, t, R2, o2, Evs.seq h fun b ρ3 F3 H3 s3 R3 h => Evs.here h R3 _ (.bl _)⟩
  exact wpAny_bind (thn (ha.run pins s σ H _ I t) fun w' s1 ⟨w, H1, I1, r1, q1⟩ => hl.run pins s1 σ H1 w w' Q I1 r1 q1)
theorem sndT_cmp {op : CmpOp} {ops : List CmpOp} {es : List Expr} {l : Lks} (ha : PE X a (rdE X.K W Φ x)) (hl : PChT X pos (op :: ops) (b :: es) (rdLT X.K W Φ l)) (hm : lastMarks (op :: ops) (b :: es) = false) : PT X (.Compare a (op :: ops) (b :: es) pos) (rdT X.K W Φ (.cmp x l)) := by
  refine ⟨fun pins s σ H Q I ⟨G, z, F, ρ, R, h⟩ => ?_⟩
  simp only [evE, bnd_assoc] at h
  show wpAny _ _ (do testChain pos (← eval a X.env) (op :: ops) (markedEach (op :: ops) (b :: es) (evalEach (b :: es) X.env))) _ _ s
  rw [PyProof.Rows.markedEach_of_false _ _ _ hm]
  have t : rdE X.K W Φ x σ H fun w H1 => rdLT X.K W Φ l w σ H1 Q := rd_opd R h fun t ρ2 F2 H2 w s2 R2 o2 h => ⟨G, z, F2, ρ2, t, R2, o2, Evs.seq h fun b ρ3 F3 H3 s3 R3 h => Evs.here (show Evs X.K G z W σ F3 (.ok b ρ3 : Res Bool) _ from h) R3⟩
  exact wpAny_bind (thn (ha.run pins s σ H _ I t) fun w' s1 ⟨w, H1, I1, r1, q1⟩ => hl.run pins s1 σ H1 w w' Q I1 r1 q1)
end
end Sn

namespace Sn
open PySem PySem.Spec L2
variable {K : PySem.W.Frag} {F F' H H' G : Hp} {z : Pz} {ρ ρ' : List Sl} {σ σ' : St} {W : Str → St → Hp → Prop} {Φ : Nat → List D → Out} {α β : Type}

/-- what a call gives back -/
def RetV (K : PySem.W.Frag) (G F H : Hp) (io : Option Addr) : R → V → Prop
  | .v d, v => At K F v d
  | .nw c, v => ∃ a, v = .ref a ∧ F a = none ∧ G a = none ∧ io ≠ some a ∧ COk K F H a c
  | .sl _, _ => False
structure Aft (K : PySem.W.Frag) (G F F' H' : Hp) : Prop where
  ff : Sub F F'
  fh : Sub F' H'
  gh : Sub G H'
  fg : ∀ a, F' a ≠ none → G a = none
  hl : HLen F'
  gt : ∀ a xs, G a ≠ some (.tup xs)
def retQ (K : PySem.W.Frag) (mg : Str → Option Value) (G F : Hp) (io : Option Addr) (o : Out) (Q : VK) (E : XK) : Prop := match o with
  | .ret r ys => ∀ F' H' v, Aft K G F F' H' → RetV K G F' H' io r v → (∀ a, io = some a → F' a = none ∧ COk K F' H' a (.l ys)) → Q v H'
  | .ex c => ∀ F' H' C, Aft K G F F' H' → mg c = some (.ref C) → E (.ref C) none H'
  | .no => False
def spF (K : PySem.W.Frag) (mg : Str → Option Value) (Φ : Nat → List D → Out) (f : Nat) (io : Bool) : Sp := fun vs H Q E => match io with
  | false => ∃ G F ds, Aft K G F F H ∧ AtAll K F vs ds ∧ retQ K mg G F none (Φ f ds) Q E
  | true => ∃ G F ds a us xs, Aft K G F F H ∧ vs = .ref a :: us ∧ F a = none ∧ G a = none ∧ COk K F H a (.l xs) ∧ AtAll K F us ds ∧ retQ K mg G F (some a) (Φ f (.list xs :: ds)) Q E
/-- what a callee leaves alone: what stood, and the caller's own objects but one -/
noncomputable def Gy (G H : Hp) (ρ : List Sl) (σ : St) (k : Option Nat) : Hp := fun a => open Classical in if ∃ i, k ≠ some i ∧ Own ρ σ i a then H a else G a
theorem Gy.own {k : Option Nat} {i : Nat} {a : Addr} (n : k ≠ some i) (o : Own ρ σ i a) : Gy G H ρ σ k a = H a := by
  unfold Gy; rw [if_pos ⟨i, n, o⟩]
theorem Gy.off {k : Option Nat} {a : Addr} (h : ¬ ∃ i, k ≠ some i ∧ Own ρ σ i a) : Gy G H ρ σ k a = G a := by
  unfold Gy; rw [if_neg h]
theorem Rep.aft (P : Rep K G z F ρ σ H) (k : Option Nat) : Aft K (Gy G H ρ σ k) F F H := by
  refine ⟨.refl, P.fh, fun a o h => ?_, fun a h => ?_, P.hl, fun a xs h => ?_⟩
  · by_cases c : ∃ i, k ≠ some i ∧ Own ρ σ i a
    · obtain ⟨i, n, c⟩ := c; rw [Gy.own n c] at h; exact h
    · rw [Gy.off c] at h; exact P.gh _ _ h
  · by_cases c : ∃ i, k ≠ some i ∧ Own ρ σ i a
    · obtain ⟨i, n, c⟩ := c; exact absurd (P.own_none c).1 h
    · rw [Gy.off c]; exact P.fg _ h
  · by_cases c : ∃ i, k ≠ some i ∧ Own ρ σ i a
    · obtain ⟨i, n, f, c, e, ea⟩ := c
      rw [Gy.own n ⟨f, c, e, ea⟩] at h
      obtain ⟨b, h1, _, _, _, h5⟩ := P.ow e
      rw [ea] at h1; cases h1
      exact cok_notup h5 xs h
    · rw [Gy.off c] at h; exact P.gt a xs h
theorem Rep.gy_none (P : Rep K G z F ρ σ H) {k : Option Nat} {a : Addr} (h : Gy G H ρ σ k a = none) : G a = none ∧ ∀ i, k ≠ some i → ¬ Own ρ σ i a := by
  by_cases c : ∃ i, k ≠ some i ∧ Own ρ σ i a
  · obtain ⟨i, n, c⟩ := c
    rw [Gy.own n c] at h
    exact absurd h (P.own_none c).2.2
  · refine ⟨by rw [Gy.off c] at h; exact h, fun i n o => c ⟨i, n, o⟩⟩
/-- behind a call -/
theorem Rep.back (P : Rep K G z F ρ σ H) (A : Aft K (Gy G H ρ σ none) F F' H') : Rep K G z F' ρ σ H' := by
  refine ⟨P.len, A.fh, fun a o h => ?_, fun a h => (P.gy_none (A.fg a h)).1, A.hl, fun i s e => ?_, P.ap, P.gt⟩
  · refine A.gh a o ?_
    by_cases c : ∃ i, (none : Option Nat) ≠ some i ∧ Own ρ σ i a
    · obtain ⟨i, n, c⟩ := c; rw [(P.own_none c).2.1] at h; cases h
    · rw [Gy.off c]; exact h
  · obtain ⟨o, q1, q2⟩ := P.sl i s e
    refine ⟨o, q1, ?_⟩
    cases s with
    | un => trivial
    | v d => obtain ⟨v, q3, q4⟩ := q2; exact ⟨v, q3, At.mono A.ff q4⟩
    | ow f c =>
      obtain ⟨a, q3, q4, q5, q6, q7⟩ := q2
      have ow : Own ρ σ i a := ⟨f, c, e, by rw [q1, q3]⟩
      have hg : Gy G H ρ σ none a = H a := Gy.own (by simp) ow
      have hk : H' a = H a := by
        cases w : H a with
        | none => exact absurd w q7.some
        | some u => exact A.gh a u (by rw [hg, w])
      refine ⟨a, q3, q4, ?_, q6, COk.mono A.ff hk q7⟩
      cases w : F' a with
      | none => rfl
      | some u =>
        have := A.fg a (by rw [w]; simp)
        rw [hg] at this
        exact absurd this q7.some
    | lk => exact q2
theorem RetV.rok (P : Rep K G z F ρ σ H) (A : Aft K (Gy G H ρ σ none) F F' H') {r : R} {v : V} (h : RetV K (Gy G H ρ σ none) F' H' none r v) : ROk K G F' H' ρ σ r v := by
  cases r with
  | v d => exact h
  | nw c =>
    obtain ⟨a, e, h1, h2, _, h4⟩ := h
    have q := P.gy_none h2
    exact ⟨a, e, h1, q.1, fun i => q.2 i (by simp), h4⟩
  | sl i => exact h.elim
/-- behind a call with the list in slot i handed in -/
theorem Rep.backIO (P : Rep K G z F ρ σ H) {i : Nat} {f : Bool} {c : C} {a : Addr} {ys : List D} (e : ρ[i]? = some (.ow f c)) (ea : σ[i]? = some (some (.ref a))) (A : Aft K (Gy G H ρ σ (some i)) F F' H') (hF : F' a = none) (hn : COk K F' H' a (.l ys)) :
    Rep K G z F' (ρ.set i (.ow f (.l ys))) σ H' := by
  have l : i < ρ.length := (List.getElem?_eq_some_iff.mp e).1
  have oi : Own ρ σ i a := ⟨f, c, e, ea⟩
  obtain ⟨b, h1, h2, h3, h4, h5⟩ := P.ow e
  rw [ea] at h1; cases h1
  have own : ∀ j x, Own (ρ.set i (.ow f (.l ys))) σ j x → Own ρ σ j x := fun j x o => by
    obtain ⟨g, d, q1, q2⟩ := o
    by_cases n : i = j
    · subst n; exact ⟨f, c, e, q2⟩
    · rw [List.getElem?_set_ne n] at q1; exact ⟨g, d, q1, q2⟩
  refine ⟨by simpa using P.len, A.fh, fun b o h => ?_, fun b h => (P.gy_none (A.fg b h)).1, A.hl, fun j s q => ?_, fun j k x h1 h2 => P.ap j k x (own j x h1) (own k x h2), P.gt⟩
  · refine A.gh b o ?_
    by_cases c : ∃ j, (some i : Option Nat) ≠ some j ∧ Own ρ σ j b
    · obtain ⟨j, n, c⟩ := c; rw [(P.own_none c).2.1] at h; cases h
    · rw [Gy.off c]; exact h
  · by_cases n : i = j
    · subst n
      rw [List.getElem?_set_self l] at q
      cases q
      exact ⟨_, ea, a, rfl, h2, hF, h4, hn⟩
    · rw [List.getElem?_set_ne n] at q
      obtain ⟨o, q1, q2⟩ := P.sl j s q
      refine ⟨o, q1, ?_⟩
      cases s with
      | un => trivial
      | v d => obtain ⟨v, q3, q4⟩ := q2; exact ⟨v, q3, At.mono A.ff q4⟩
      | ow g d =>
        obtain ⟨x, q3, q4, q5, q6, q7⟩ := q2
        have ow : Own ρ σ j x := ⟨g, d, q, by rw [q1, q3]⟩
        have hg : Gy G H ρ σ (some i) x = H x := Gy.own (by simpa using n) ow
        have hk : H' x = H x := by
          cases w : H x with
          | none => exact absurd w q7.some
          | some u => exact A.gh x u (by rw [hg, w])
        refine ⟨x, q3, q4, ?_, q6, COk.mono A.ff hk q7⟩
        cases w : F' x with
        | none => rfl
        | some u =>
          have := A.fg x (by rw [w]; simp)
          rw [hg] at this
          exact absurd this q7.some
      | lk => exact q2
theorem RetV.rokIO (P : Rep K G z F ρ σ H) {i : Nat} {f : Bool} {c d : C} {a : Addr} (e : ρ[i]? = some (.ow f c)) (ea : σ[i]? = some (some (.ref a))) {r : R} {v : V} (h : RetV K (Gy G H ρ σ (some i)) F' H' (some a) r v) :
    ROk K G F' H' (ρ.set i (.ow f d)) σ r v := by
  cases r with
  | v d => exact h
  | nw c' =>
    obtain ⟨b, rfl, h1, h2, h3, h4⟩ := h
    have q := P.gy_none h2
    refine ⟨b, rfl, h1, q.1, fun j o => ?_, h4⟩
    obtain ⟨g, d', q1, q2⟩ := o
    by_cases n : i = j
    · subst n; rw [ea] at q2; cases q2; exact h3 rfl
    · rw [List.getElem?_set_ne n] at q1; exact q.2 j (by simpa using n) ⟨g, d', q1, q2⟩
  | sl i => exact h.elim

/-- a def that is called -/
structure FnAt (X : Cx) (Φ : Nat → List D → Out) (x : Str) (f : Nat) (io : Bool) (k : Nat) (a : Addr) (fd : FuncData) (ps : List Str) : Prop where
  ok : FnOk X.prog X.w X.K X.mg X.base (L2N.CX X.prog X.w) k a fd ps (spF X.K X.mg Φ f io)
  room : Room k X.A
  mg : X.mg x = some (.ref a)
  kp : PySem.W.keepIn X.K (.ref a) = true
  bd : Binds X.K fd ps []
/-- the wish by a class's name -/
def wOf (X : Cx) (W0 : WX) : Str → St → Hp → Prop := fun c σ H => ∀ C, X.mg c = some (.ref C) → W0 (.ref C) none σ H
section
variable {X : Cx} {W0 : WX} {n : Str} {p pos : Pos} {e : Expr} {es : List Expr} {x : Ex} {xs : Exs} {f m k : Nat} {a : Addr} {fd : FuncData} {ps : List Str}
theorem noStars {es : List Expr} (h : ∀ e ∈ es, ∀ v p, e ≠ .Starred v p) (env : PySem.Env) (pos : Pos) : (backTo pos (starEach es env)).any (·.1) = false := by
  induction es with
  | nil => rfl
  | cons e es ih =>
    rw [star_of (h e (by simp))]
    show (false || (backTo pos (starEach es env)).any (·.1)) = false
    rw [ih fun e he => h e (by simp [he])]; rfl
theorem snd_call (tk : L2N.Takes X W0) (A : FnAt X Φ n f false k a fd ps) (hg : Gl X n) (hd : (n == ("__debug__" : Str)) = false) (h1 : ∀ v p, e ≠ .Starred v p) (h2 : ∀ e ∈ es, ∀ v p, e ≠ .Starred v p) (ha : PA X (e :: es) (rdA X.K (wOf X W0) Φ xs)) :
    PE X (.Call (.Name n p) (e :: es) [] pos) (rdE X.K (wOf X W0) Φ (.call f xs)) := by
  refine PE.imp (pe_callS A.ok A.room hg A.mg A.kp A.bd (fun σ => L2N.passAt tk σ) ha hd (star_of h1) (noStars h2 _ _)) fun σ H Q ⟨G, z, F, ρ, R, h⟩ => ?_
  simp only [evE] at h
  refine ⟨G, z, F, ρ, R, Evs.seq h fun ds ρ1 F1 H1 s1 R1 h vs hvs => ?_⟩
  refine ⟨Gy G H1 ρ1 σ none, F1, ds, R1.aft none, hvs, ?_⟩
  unfold outR at h
  split at h
  · rename_i d ys e
    rw [e]
    exact fun F' H' v A rv _ => h F' H' A.ff (R1.back A) v (RetV.rok R1 A rv)
  · rename_i c ys e
    rw [e]
    exact fun F' H' v A rv _ => h F' H' A.ff (R1.back A) v (RetV.rok R1 A rv)
  · exact h.elim
  · rename_i c e
    rw [e]
    intro F' H' C A hC
    exact h F' H' A.ff (R1.back A) C hC
  · exact h.elim
theorem snd_callIO (tk : L2N.Takes X W0) (A : FnAt X Φ n f true k a fd ps) (hg : Gl X n) (hd : (n == ("__debug__" : Str)) = false) {i : Nat} {y : Str} {py : Pos} (hN : X.N[i]? = some y) (hv : Vis X.env.scope y) (hdy : (y == ("__debug__" : Str)) = false) (hcy : (y == ("__classdict__" : Str)) = false)
    (h2 : ∀ e ∈ es, ∀ v p, e ≠ .Starred v p) (ha : PA X es (rdA X.K (wOf X W0) Φ xs)) :
    PE X (.Call (.Name n p) (.Name y py :: es) [] pos) (rdE X.K (wOf X W0) Φ (.callIO f i xs)) := by
  refine PE.imp (pe_callS A.ok A.room hg A.mg A.kp A.bd (fun σ => L2N.passAt tk σ) (pa_cons (pe_var hN hv hdy hcy) ha) hd (star_of fun _ _ e => nomatch e) (noStars h2 _ _)) fun σ H Q ⟨G, z, F, ρ, R, h⟩ => ?_
  simp only [evE] at h
  split at h
  · rename_i g c e
    obtain ⟨b, eb, _⟩ := R.ow e
    refine ⟨_, eb, G, z, F, ρ, R, Evs.seq h fun ds ρ1 F1 H1 s1 R1 h vs hvs => ?_⟩
    split at h
    · rename_i g' ys e'
      obtain ⟨b', eb', _, hF, hG, hc⟩ := R1.ow e'
      rw [eb] at eb'; cases eb'
      have hGy : Gy G H1 ρ1 σ (some i) b = none := by
        rw [Gy.off]
        · exact hG
        · rintro ⟨j, nj, oj⟩
          exact nj (by rw [R1.ap j i b oj ⟨_, _, e', eb⟩])
      refine ⟨Gy G H1 ρ1 σ (some i), F1, ds, b, vs, ys, R1.aft _, rfl, hF, hGy, hc, hvs, ?_⟩
      unfold outIO at h
      split at h
      · rename_i d io e2
        rw [e2]
        intro F' H' v A rv hio
        obtain ⟨q1, q2⟩ := hio b rfl
        exact h F' H' A.ff (R1.backIO e' eb A q1 q2) v (RetV.rokIO R1 e' eb rv)
      · rename_i d io e2
        rw [e2]
        intro F' H' v A rv hio
        obtain ⟨q1, q2⟩ := hio b rfl
        exact h F' H' A.ff (R1.backIO e' eb A q1 q2) v (RetV.rokIO R1 e' eb rv)
      · exact h.elim
    · exact h.elim
  · exact h.elim

theorem rdA_one (hx : ∀ {σ H Q}, rdE K W Φ x σ H Q → True) : True := trivial
/-- one argument -/
theorem snd_bi1 {b : Bi} {id : String} (hc : CallR X (.builtin id) (rBi X.K b)) (hg : Gl X n) (hm : X.mg n = none) (hb : bootBuiltins n = some (.builtin id)) (hn : n ≠ "__name__") (hd : (n == ("__debug__" : Str)) = false) (h1 : ∀ v p, e ≠ .Starred v p) (ha : PE X e (rdE X.K W Φ x))
    (hev : ∀ ρ, evE Φ (.bi b (.cons x .nil)) ρ = bnd (evE Φ x ρ) fun x ρ => bnd (opr x ρ) fun x ρ => bnd (opt (vw ρ x) ρ) fun x ρ => opt (biD b [x]) ρ) :
    PE X (.Call (.Name n p) [e] [] pos) (rdE X.K W Φ (.bi b (.cons x .nil))) := by
  refine PE.imp (pe_callB hc hg hm hb (pa_cons ha pa_nil (star_of h1)) hn hd (star_of h1) rfl) fun σ H Q ⟨G, z, F, ρ, R, h⟩ => ?_
  rw [hev] at h
  refine rd_opd R h fun r ρ1 F1 H1 v s1 R1 o1 h => ?_
  obtain ⟨dx, e1, h⟩ := h.opt
  obtain ⟨r', e2, h⟩ := h.optE
  exact ⟨F1, [dx], r', R1.fh, R1.hl, .cons (R1.ovw o1 e1) .nil, e2, fun F' H' u S n => h F' H' S.ff (R1.stp S) u (R1.rnw S n)⟩
theorem snd_bi1T {b : Bi} {T : String} (hc : CallR X (.type T) (rBi X.K b)) (hg : Gl X n) (hm : X.mg n = none) (hb : bootBuiltins n = some (.type T)) (hn : n ≠ "__name__") (hd : (n == ("__debug__" : Str)) = false) (h1 : ∀ v p, e ≠ .Starred v p) (ha : PE X e (rdE X.K W Φ x))
    (hev : ∀ ρ, evE Φ (.bi b (.cons x .nil)) ρ = bnd (evE Φ x ρ) fun x ρ => bnd (opr x ρ) fun x ρ => bnd (opt (vw ρ x) ρ) fun x ρ => opt (biD b [x]) ρ) :
    PE X (.Call (.Name n p) [e] [] pos) (rdE X.K W Φ (.bi b (.cons x .nil))) := by
  refine PE.imp (pe_callTy hc hg hm hb (pa_cons ha pa_nil (star_of h1)) hn hd (star_of h1) rfl) fun σ H Q ⟨G, z, F, ρ, R, h⟩ => ?_
  rw [hev] at h
  refine rd_opd R h fun r ρ1 F1 H1 v s1 R1 o1 h => ?_
  obtain ⟨dx, e1, h⟩ := h.opt
  obtain ⟨r', e2, h⟩ := h.optE
  exact ⟨F1, [dx], r', R1.fh, R1.hl, .cons (R1.ovw o1 e1) .nil, e2, fun F' H' u S n => h F' H' S.ff (R1.stp S) u (R1.rnw S n)⟩
theorem snd_bi2 {b : Bi} {id : String} {e2 : Expr} {y : Ex} (hc : CallR X (.builtin id) (rBi X.K b)) (hg : Gl X n) (hm : X.mg n = none) (hb : bootBuiltins n = some (.builtin id)) (hn : n ≠ "__name__") (hd : (n == ("__debug__" : Str)) = false) (h1 : ∀ v p, e ≠ .Starred v p) (h2 : ∀ v p, e2 ≠ .Starred v p)
    (ha : PE X e (rdE X.K W Φ x)) (ha2 : PE X e2 (rdE X.K W Φ y))
    (hev : ∀ ρ, evE Φ (.bi b (.cons x (.cons y .nil))) ρ = bnd (evE Φ x ρ) fun x ρ => bnd (opr x ρ) fun x ρ => bnd (evE Φ y ρ) fun y ρ => bnd (opr y ρ) fun y ρ => bnd (opt (vw ρ x) ρ) fun x ρ => bnd (opt (vw ρ y) ρ) fun y ρ => opt (biD b [x, y]) ρ) :
    PE X (.Call (.Name n p) [e, e2] [] pos) (rdE X.K W Φ (.bi b (.cons x (.cons y .nil)))) := by
  refine PE.imp (pe_callB hc hg hm hb (pa_cons ha (pa_cons ha2 pa_nil (star_of h2)) (star_of h1)) hn hd (star_of h1) (noStars (by simpa using h2) _ _)) fun σ H Q ⟨G, z, F, ρ, R, h⟩ => ?_
  rw [hev] at h
  refine rd_opd R h fun r ρ1 F1 H1 v s1 R1 o1 h => rd_opd R1 h fun t ρ2 F2 H2 w s2 R2 o2 h => ?_
  obtain ⟨dx, e1, h⟩ := h.opt
  obtain ⟨dy, e2, h⟩ := h.opt
  obtain ⟨r', e3, h⟩ := h.optE
  exact ⟨F2, [dx, dy], r', R2.fh, R2.hl, .cons (R2.ovw (o1.mono s2) e1) (.cons (R2.ovw o2 e2) .nil), e3, fun F' H' u S n => h F' H' S.ff (R2.stp S) u (R2.rnw S n)⟩
/-- isinstance(e, T) -/
theorem snd_isi {b : Bi} {T : String} {c : Str} {pc : Pos} (hT : biT b = some T) (hg : Gl X n) (hm : X.mg n = none) (hb : bootBuiltins n = some (.builtin "isinstance")) (hn : n ≠ "__name__") (hd : (n == ("__debug__" : Str)) = false) (h1 : ∀ v p, e ≠ .Starred v p)
    (hgc : Gl X c) (hmc : X.mg c = none) (hbc : bootBuiltins c = some (.type T)) (hnc : c ≠ "__name__") (hdc : (c == ("__debug__" : Str)) = false) (ha : PE X e (rdE X.K W Φ x))
    (hev : ∀ ρ, evE Φ (.bi b (.cons x .nil)) ρ = bnd (evE Φ x ρ) fun x ρ => bnd (opr x ρ) fun x ρ => bnd (opt (vw ρ x) ρ) fun x ρ => opt (biD b [x]) ρ) :
    PE X (.Call (.Name n p) [e, .Name c pc] [] pos) (rdE X.K W Φ (.bi b (.cons x .nil))) := by
  refine PE.imp (pe_callB (bi_isi hT) hg hm hb (pa_cons ha (pa_cons (pe_bltn (v := .ty T) hgc hmc hbc rfl hnc hdc) pa_nil (star_of fun _ _ e => nomatch e)) (star_of h1)) hn hd (star_of h1) rfl) fun σ H Q ⟨G, z, F, ρ, R, h⟩ => ?_
  rw [hev] at h
  refine rd_opd R h fun r ρ1 F1 H1 v s1 R1 o1 h => ?_
  obtain ⟨dx, e1, h⟩ := h.opt
  obtain ⟨r', e2, h⟩ := h.optE
  exact ⟨v, rfl, F1, [dx], r', R1.fh, R1.hl, .cons (R1.ovw o1 e1) .nil, e2, fun F' H' u S n => h F' H' S.ff (R1.stp S) u (R1.rnw S n)⟩
end
end Sn

namespace RZ
open PySem PySem.Spec PyProof.Rows L2
/-- the tuples at a, b and c as they stand at each turn, the items in new triples -/
def ItzT3 (K : PySem.W.Frag) (a b c : Addr) : It :=
  ⟨fun i H => ∃ (xs ys zs : List V) (x y u : V), SqT K H a xs ∧ SqT K H b ys ∧ SqT K H c zs ∧ xs[i]? = some x ∧ ys[i]? = some y ∧ zs[i]? = some u,
    fun i H v H' => ∃ T x y u, v = .ref T ∧ H T = none ∧ H' = upd H T (.tup [x, y, u]) ∧ (∀ xs, SqT K H a xs → xs[i]? = some x) ∧ (∀ ys, SqT K H b ys → ys[i]? = some y) ∧ ∀ zs, SqT K H c zs → zs[i]? = some u,
    fun i H => ∃ xs ys zs : List V, SqT K H a xs ∧ SqT K H b ys ∧ SqT K H c zs ∧ i ≤ xs.length ∧ i ≤ ys.length ∧ i ≤ zs.length ∧ (i = xs.length ∨ i = ys.length ∨ i = zs.length)⟩
theorem apart_tit {h : Heap} {i a : Addr} {k : Nat} {xs : Array Value} (h1 : h.IsTupleIter i a k) (p : h.IsTuple a xs) : a ≠ i := by
  intro e
  obtain ⟨o, e1, e2, _⟩ := h1
  obtain ⟨o', f1, f2, _⟩ := p
  rw [e, e1] at f1
  have f1 := Option.some.inj f1
  rw [← f1, e2] at f2
  exact absurd f2 (by simp)
theorem turn_zipT3 {P : Program} {w : World} {K : PySem.W.Frag} {elts : List Expr} {kk : Nat} {tpos : Pos} {a b c z TI TO i1 i2 i3 : Addr} (D : ZipSep3 z TI TO i1 i2 i3 [i1, a] [i2, b] [i3, c]) :
    Turn P w K (.Tuple elts kk tpos) (ItzT3 K a b c) [z, TI, TO, i1, i2, i3] z (fun i h => IsZip h z TI TO .none ∧ IsTupOf3 h TI (.ref i1) (.ref i2) (.ref i3) ∧ (∃ x y u, IsTupOf3 h TO x y u) ∧ h.IsTupleIter i1 a i ∧ h.IsTupleIter i2 b i ∧ h.IsTupleIter i3 c i) where
  mem := by simp
  obj := fun i h st q hc => by
    obtain ⟨hz, hTI, ⟨x, y, u, hTO⟩, ⟨o1, e1, _, d1⟩, ⟨o2, e2, _, d2⟩, ⟨o3, e3, _, d3⟩⟩ := st
    have e' : q = z ∨ q = TI ∨ q = TO ∨ q = i1 ∨ q = i2 ∨ q = i3 := by simpa using hc
    rcases e' with q | q | q | q | q | q
    · rw [q]; exact ⟨_, hz, fun v q => nomatch q⟩
    · rw [q]; exact ⟨_, hTI, fun v q => nomatch q⟩
    · rw [q]; exact ⟨_, hTO, fun v q => nomatch q⟩
    · rw [q]; exact ⟨o1, e1, fun v q => by rw [d1] at q; cases q⟩
    · rw [q]; exact ⟨o2, e2, fun v q => by rw [d2] at q; cases q⟩
    · rw [q]; exact ⟨o3, e3, fun v q => by rw [d3] at q; cases q⟩
  keep := fun i h h' st k => by
    obtain ⟨hz, hTI, ⟨x, y, u, hTO⟩, h1, h2, h3⟩ := st
    exact ⟨k z (by simp) _ hz, k TI (by simp) _ hTI, ⟨x, y, u, k TO (by simp) _ hTO⟩, h1.at fun o q => k i1 (by simp) o q, h2.at fun o q => k i2 (by simp) o q, h3.at fun o q => k i3 (by simp) o q⟩
  item := by
    intro X hP hw hK hc i pins s σ H E I hf st hg
    subst hP hw hK
    obtain ⟨hz, hTI, ⟨x0, y0, u0, hTO⟩, h1, h2, h3⟩ := st
    obtain ⟨xs, ys, zs, x, y, u, hqx, hqy, hqz, hx, hy, hu⟩ := hg
    obtain ⟨its, rv, p, _⟩ := I.tuple hqx
    obtain ⟨its2, rv2, p2, _⟩ := I.tuple hqy
    obtain ⟨its3, rv3, p3, _⟩ := I.tuple hqz
    obtain ⟨g1, hg1, rg1⟩ := rv.get hx
    obtain ⟨g2, hg2, rg2⟩ := rv2.get hy
    obtain ⟨g3, hg3, rg3⟩ := rv3.get hu
    have hzl : z < s.heap.objs.size := Heap.lt_size hz
    have hh : X.A.in1.handled = none := I.ok.hd hc
    have q1 : i < its.toArray.size := by have := (List.getElem?_eq_some_iff.mp hg1).1; simpa using this
    have q2 : i < its2.toArray.size := by have := (List.getElem?_eq_some_iff.mp hg2).1; simpa using this
    have q3 : i < its3.toArray.size := by have := (List.getElem?_eq_some_iff.mp hg3).1; simpa using this
    have na : a ≠ i1 := apart_tit h1 (show s.heap.IsTuple a its.toArray from p)
    have nb : b ≠ i2 := apart_tit h2 (show s.heap.IsTuple b its2.toArray from p2)
    have nc : c ≠ i3 := apart_tit h3 (show s.heap.IsTuple c its3.toArray from p3)
    refine wpAny_pyNext_zipD3_item D (Draws.tuple hh i1 a na its.toArray) (Draws.tuple hh i2 b nb its2.toArray) (Draws.tuple hh i3 c nc its3.toArray) hz hTI hTO ⟨h1, p⟩ ⟨h2, p2⟩ ⟨h3, p3⟩ q1 q2 q3 fun x1 x2 x3 h' tk y1 y2 y3 z' TO' d1 d2 d3 hT hsz hk => ?_
    have ex1 : x1 = g1 := by have : its[i]? = some x1 := by simpa using y1
                             rw [hg1] at this; exact (Option.some.inj this).symm
    have ex2 : x2 = g2 := by have : its2[i]? = some x2 := by simpa using y2
                             rw [hg2] at this; exact (Option.some.inj this).symm
    have ex3 : x3 = g3 := by have : its3[i]? = some x3 := by simpa using y3
                             rw [hg3] at this; exact (Option.some.inj this).symm
    subst ex1 ex2 ex3
    refine ⟨_, rfl, wpAny_letOwnedTupleGo_zip (s := { s with heap := h', toks := tk }) z' fun h'' z'' sb => ?_⟩
    have hT2 : h''.get? s.heap.objs.size = some { cls := .type "tuple", data := .seq #[x1, x2, x3] } := (sb.2 _ (Nat.ne_of_gt hzl)).trans hT
    have new : ObjOk X.prog X.w (upd H s.heap.objs.size (.tup [x, y, u])) h'' s.heap.objs.size (.tup [x, y, u]) :=
      ⟨by show 3 ≤ sizeLine; decide, [x1, x2, x3], .cons rg1 (.cons rg2 (.cons rg3 .nil)), ⟨_, hT2, rfl, _, rfl⟩⟩
    have I1 : Inv X pins σ (upd H s.heap.objs.size (.tup [x, y, u])) { s with heap := h'', toks := tk } :=
      I.turnedNew (t' := tk) (ch := [z, TI, TO, i1, i2, i3]) (fun q o hb e => (sb.2 q (fun q' => hb (by simp [q']))).trans (hk q o (fun q' => hb (by simp [q'])) (fun q' => hb (by simp [q'])) (fun q' => hb (by simp [q'])) (fun q' => hb (by simp [q'])) (fun q' => hb (by simp [q'])) e)) hf (Nat.le_refl _) new
    have zi1 : i1 ≠ z := fun e => D.zi1 e.symm
    have zi2 : i2 ≠ z := fun e => D.zi2 e.symm
    have zi3 : i3 ≠ z := fun e => D.zi3 e.symm
    refine ⟨.ref s.heap.objs.size, _, I1, rfl, ⟨_, x, y, u, rfl, I.hok.fresh (Nat.le_refl _), rfl, fun l hl => by rw [I.tuple_inj hl hqx]; exact hx, fun l hl => by rw [I.tuple_inj hl hqy]; exact hy, fun l hl => by rw [I.tuple_inj hl hqz]; exact hu⟩, ⟨z'', ?_, ⟨x1, x2, x3, ?_⟩, ?_, ?_, ?_⟩, fun q hcm => ?_⟩
    · exact (sb.2 _ D.TIz).trans (hk _ _ D.TIz D.TITO D.TIi1 D.TIi2 D.TIi3 hTI)
    · exact (sb.2 _ D.TOz).trans TO'
    · exact d1.1.at fun o q => (sb.2 _ zi1).trans q
    · exact d2.1.at fun o q => (sb.2 _ zi2).trans q
    · exact d3.1.at fun o q => (sb.2 _ zi3).trans q
    · have hlt : q < s.heap.objs.size := by
        have e' : q = z ∨ q = TI ∨ q = TO ∨ q = i1 ∨ q = i2 ∨ q = i3 := by simpa using hcm
        rcases e' with q | q | q | q | q | q
        · rw [q]; exact hzl
        · rw [q]; exact Heap.lt_size hTI
        · rw [q]; exact Heap.lt_size hTO
        · rw [q]; obtain ⟨_, e1, _⟩ := h1; exact Heap.lt_size e1
        · rw [q]; obtain ⟨_, e2, _⟩ := h2; exact Heap.lt_size e2
        · rw [q]; obtain ⟨_, e2, _⟩ := h3; exact Heap.lt_size e2
      rw [upd_ne (Nat.ne_of_lt hlt)]
      exact (hf q hcm).1
  done := by
    intro X hP hw hK hc i pins s σ H E I hf st hg
    subst hP hw hK
    obtain ⟨hz, hTI, ⟨x0, y0, u0, hTO⟩, h1, h2, h3⟩ := st
    obtain ⟨xs, ys, zs, hqx, hqy, hqz, l1, l2, l3, hend⟩ := hg
    obtain ⟨its, rv, p, _⟩ := I.tuple hqx
    obtain ⟨its2, rv2, p2, _⟩ := I.tuple hqy
    obtain ⟨its3, rv3, p3, _⟩ := I.tuple hqz
    have e1 := rv.length
    have e2 := rv2.length
    have e3 := rv3.length
    have hh : X.A.in1.handled = none := I.ok.hd hc
    have na : a ≠ i1 := apart_tit h1 (show s.heap.IsTuple a its.toArray from p)
    have nb : b ≠ i2 := apart_tit h2 (show s.heap.IsTuple b its2.toArray from p2)
    have nc : c ≠ i3 := apart_tit h3 (show s.heap.IsTuple c its3.toArray from p3)
    exact wpAny_pyNext_zipD3_end D (Draws.tuple hh i1 a na its.toArray) (Draws.tuple hh i2 b nb its2.toArray) (Draws.tuple hh i3 c nc its3.toArray) hz hTI hTO ⟨h1, p⟩ ⟨h2, p2⟩ ⟨h3, p3⟩ (by simp; omega) (by simp; omega) (by simp; omega) (by simp; omega)
      fun h' tk hk => ⟨rfl, I.turnedL (t' := tk) (ch := [z, TI, TO, i1, i2, i3]) (fun q o hb e =>
        hk q o (fun q' => hb (by simp [q'])) (fun q' => hb (by simp [q'])) (fun q' => hb (by simp [q'])) (fun q' => hb (by simp [q'])) (fun q' => hb (by simp [q'])) e) hf⟩
  self := fun A i s Q E st h => wpAny_pyIter_zip st.1 h
def iZipT3 (K : PySem.W.Frag) (ta : TA) : TI := fun σ H R => ta σ H fun vs H1 => ∃ a b c xs ys zs, vs = [.ref a, .ref b, .ref c] ∧ SqT K H1 a xs ∧ SqT K H1 b ys ∧ SqT K H1 c zs ∧ R (ItzT3 K a b c) H1
theorem pi_zipT3 {X : Cx} {e e2 e3 : Expr} {ta : TA} {p pos tpos : Pos} {elts : List Expr} {kk : Nat} (hg : Gl X "zip") (hm : X.mg "zip" = none) (ha : PA X [e, e2, e3] ta)
    (hs : starEach [e, e2, e3] X.env = (false, eval e X.env) :: starEach [e2, e3] X.env := by rfl) (hpl : (backTo pos (starEach [e2, e3] X.env)).any (·.1) = false := by rfl) :
    PI X (.Tuple elts kk tpos) (.Call (.Name "zip" p) [e, e2, e3] [] pos) (iZipT3 X.K ta) := by
  refine ⟨fun pins s σ H R I h => ?_⟩
  refine Call_ (ld_blt I hg hm PyProof.Rows.boot_zip (PyProof.Rows.callWith_type1 (thn (ha.run pos pins s σ H _ I h) fun us s1 ⟨vs, H1, I1, r1, q1⟩ => ?_) hs hpl))
  obtain ⟨a, b, c, xs, ys, zs, ex, hqx, hqy, hqz, q⟩ := q1
  subst ex
  cases r1 with
  | cons r rr =>
    cases rr with
    | cons r' rr =>
      cases rr with
      | cons r'' rr =>
        cases rr
        cases r
        cases r'
        cases r''
        have fresh6 : ∀ q, q ∈ [s1.heap.objs.size + 5, s1.heap.objs.size + 3, s1.heap.objs.size + 4, s1.heap.objs.size, s1.heap.objs.size + 1, s1.heap.objs.size + 2] → FpOk X pins H1 q := fun q hcm => by
          have e' : q = s1.heap.objs.size + 5 ∨ q = s1.heap.objs.size + 3 ∨ q = s1.heap.objs.size + 4 ∨ q = s1.heap.objs.size ∨ q = s1.heap.objs.size + 1 ∨ q = s1.heap.objs.size + 2 := by simpa using hcm
          have hle : s1.heap.objs.size ≤ q := by
            rcases e' with z | z | z | z | z | z
            · rw [z]; exact Nat.le_add_right _ _
            · rw [z]; exact Nat.le_add_right _ _
            · rw [z]; exact Nat.le_add_right _ _
            · rw [z]; exact Nat.le_refl _
            · rw [z]; exact Nat.le_add_right _ _
            · rw [z]; exact Nat.le_add_right _ _
          exact I1.fpOk hle (I1.hok.fresh hle)
        obtain ⟨its, rv, p1, _⟩ := I1.tuple hqx
        obtain ⟨its2, rv2, p2, _⟩ := I1.tuple hqy
        obtain ⟨its3, rv3, p3, _⟩ := I1.tuple hqz
        obtain ⟨o1, ho1, _⟩ := id p1
        obtain ⟨o2, ho2, _⟩ := id p2
        obtain ⟨o3, ho3, _⟩ := id p3
        refine zip_begins3 (begins_tuple a its.toArray) (begins_tuple b its2.toArray) (begins_tuple c its3.toArray) (show s1.heap.IsTuple a its.toArray from p1) (show s1.heap.IsTuple b its2.toArray from p2) (show s1.heap.IsTuple c its3.toArray from p3) fun h' hz hTI hTO h1 h2 h3 hsz hk => wpAny_pyIter_zip hz ?_
        have I2 : Inv X pins σ H1 { s1 with heap := h' } := I1.kept (t' := s1.toks) hk
        have lt1 : ∀ q ∈ [a], q < s1.heap.objs.size := fun q hq => by rw [List.mem_singleton.mp hq]; exact Heap.lt_size ho1
        have lt2 : ∀ q ∈ [b], q < s1.heap.objs.size := fun q hq => by rw [List.mem_singleton.mp hq]; exact Heap.lt_size ho2
        have lt3 : ∀ q ∈ [c], q < s1.heap.objs.size := fun q hq => by rw [List.mem_singleton.mp hq]; exact Heap.lt_size ho3
        exact ⟨s1.heap.objs.size + 5, [s1.heap.objs.size + 5, s1.heap.objs.size + 3, s1.heap.objs.size + 4, s1.heap.objs.size, s1.heap.objs.size + 1, s1.heap.objs.size + 2], _, _, H1, rfl, I2, turn_zipT3 (zip_sep3 lt1 lt2 lt3), ⟨hz, hTI, ⟨_, _, _, hTO⟩, ⟨_, h1, rfl, rfl⟩, ⟨_, h2, rfl, rfl⟩, ⟨_, h3, rfl, rfl⟩⟩, fresh6, q⟩
end RZ

namespace Sn
open PySem PySem.Spec L2
variable {K : PySem.W.Frag} {F F' H H' G : Hp} {z : Pz} {ρ ρ' : List Sl} {σ σ' : St} {W : Str → St → Hp → Prop} {Φ : Nat → List D → Out} {α β : Type}

/-- lists and tuples -/
def iSeq (K : PySem.W.Frag) (tl : TE) : TI := fun σ H R => tl σ H fun x H1 => ∃ a, x = .ref a ∧ (((∃ xs, SqL K H1 a xs) ∧ R (Itl K a) H1) ∨ ((∃ xs, SqT K H1 a xs) ∧ R (Itt K a) H1))
theorem pi_seq {X : Cx} {tg l : Expr} {tl : TE} (hl : PE X l tl) : PI X tg l (iSeq X.K tl) := by
  refine ⟨fun pins s σ H R I h => ?_⟩
  refine thn (hl.run pins s σ H _ I h) fun v s1 ⟨x, H1, I1, r1, q1⟩ => ?_
  obtain ⟨a, e, q⟩ := q1
  subst e
  cases r1
  have fp : ∀ b ∈ [s1.heap.objs.size], FpOk X pins H1 b := fun b hb => by
    have e : b = s1.heap.objs.size := by simpa using hb
    subst e
    exact I1.fpOk (Nat.le_refl _) (I1.hok.fresh (Nat.le_refl _))
  rcases q with ⟨⟨xs, hq⟩, q⟩ | ⟨⟨xs, hq⟩, q⟩
  · obtain ⟨its, rv, p, hz⟩ := I1.list hq
    exact PySem.wpAny_pyIter_list p.isList ⟨s1.heap.objs.size, [s1.heap.objs.size], _, _, H1, rfl, I1.kept (t' := s1.toks) fun b o e => Heap.get?_push_of_some _ e, turn_list a _, ⟨_, Heap.get?_push_size _ rfl, rfl, rfl⟩, fp, q⟩
  · obtain ⟨its, rv, p, hz⟩ := I1.tuple hq
    exact PySem.wpAny_pyIter_tuple (show s1.heap.IsTuple a its.toArray from p) ⟨s1.heap.objs.size, [s1.heap.objs.size], _, _, H1, rfl, I1.kept (t' := s1.toks) fun b o e => Heap.get?_push_of_some _ e, turn_tuple a _, ⟨_, Heap.get?_push_size _ rfl, rfl, rfl⟩, fp, q⟩
theorem jok_list {a : Addr} {vs : List V} {l : List D} (h : Rd F a (.lst vs)) (e : AtAll K F vs l) (hl : l.length ≤ sizeLine) : JOk K F l (Itl K a) := by
  refine ⟨hl, fun i F' H s1 s2 l2 => ⟨fun d hd => ?_, fun hi => ?_⟩⟩
  · obtain ⟨v, hv, av⟩ := e.get hd
    have q : SqL K H a vs := .inl ((s1.trans s2).rd h)
    refine ⟨⟨vs, v, q, hv⟩, fun x H' ⟨eH, y⟩ => ?_⟩
    subst eH
    have := y vs q
    rw [hv] at this; cases this
    exact ⟨F', .refl s2 l2, At.mono s1 av⟩
  · exact ⟨vs, .inl ((s1.trans s2).rd h), by rw [e.length]; exact Nat.le_of_eq hi⟩
theorem jok_tup {a : Addr} {vs : List V} {l : List D} (h : F a = some (.tup vs)) (e : AtAll K F vs l) (hl : l.length ≤ sizeLine) : JOk K F l (Itt K a) := by
  refine ⟨hl, fun i F' H s1 s2 l2 => ⟨fun d hd => ?_, fun hi => ?_⟩⟩
  · obtain ⟨v, hv, av⟩ := e.get hd
    have q : SqT K H a vs := .of ((s1.trans s2) _ _ h)
    refine ⟨⟨vs, v, q, hv⟩, fun x H' ⟨eH, y⟩ => ?_⟩
    subst eH
    have := y vs q
    rw [hv] at this; cases this
    exact ⟨F', .refl s2 l2, At.mono s1 av⟩
  · exact ⟨vs, .of ((s1.trans s2) _ _ h), by rw [e.length]; exact Nat.le_of_eq hi⟩
theorem rngD_len (a b : Int) : (rngD a b).length = (b - a).toNat := by unfold rngD; simp
theorem rngD_at {a b : Int} {i : Nat} {d : D} (h : (rngD a b)[i]? = some d) : i < (b - a).toNat ∧ d = .int (a + i) := by
  unfold rngD at h
  rw [List.getElem?_map] at h
  by_cases q : i < (b - a).toNat
  · rw [List.getElem?_range q] at h
    cases h
    exact ⟨q, rfl⟩
  · rw [List.getElem?_eq_none (by simpa using q)] at h
    cases h
theorem jok_rng {a b : Int} {lo : Int} {n : Nat} (h1 : lo = a) (h2 : n = (b - a).toNat) (hn : (b - a).toNat ≤ 16777216) : JOk K F (rngD a b) (Itr lo n) := by
  subst h1 h2
  refine ⟨by rw [rngD_len]; exact Nat.le_trans hn (by decide), fun i F' H s1 s2 l2 => ⟨fun d hd => ?_, fun hi => ?_⟩⟩
  · obtain ⟨q1, q2⟩ := rngD_at hd
    refine ⟨q1, fun x H' ⟨eH, ex⟩ => ?_⟩
    subst eH ex q2
    exact ⟨F', .refl s2 l2, .int _⟩
  · rw [rngD_len] at hi; exact Nat.le_of_eq hi
theorem enumD_at : ∀ {l : List D} {n i : Nat} {d : D}, (enumD n l)[i]? = some d → ∃ e, l[i]? = some e ∧ d = .tuple [.int ((n + i : Nat) : Int), e]
  | [], _, _, _, h => by simp [enumD] at h
  | x :: r, n, 0, _, h => by simp [enumD] at h; subst h; exact ⟨x, rfl, rfl⟩
  | x :: r, n, i + 1, _, h => by
    simp only [enumD, List.getElem?_cons_succ] at h
    obtain ⟨e, h1, h2⟩ := enumD_at h
    refine ⟨e, by simpa using h1, ?_⟩
    rw [h2]
    have : n + 1 + i = n + (i + 1) := by omega
    rw [this]
theorem enumD_len : ∀ (l : List D) (n : Nat), (enumD n l).length = l.length
  | [], _ => rfl
  | x :: r, n => by simp [enumD, enumD_len r (n + 1)]
theorem jok_enum {a : Addr} {vs : List V} {l : List D} (h : Rd F a (.lst vs)) (e : AtAll K F vs l) (hl : l.length ≤ sizeLine) : JOk K F (enumD 0 l) (Ite K a) := by
  refine ⟨by rw [enumD_len]; exact hl, fun i F' H s1 s2 l2 => ⟨fun d hd => ?_, fun hi => ?_⟩⟩
  · obtain ⟨e', he, rfl⟩ := enumD_at hd
    obtain ⟨v, hv, av⟩ := e.get he
    have q : SqL K H a vs := .inl ((s1.trans s2).rd h)
    refine ⟨⟨vs, v, q, hv⟩, fun x H' ⟨T, y, ex, nT, eH, hy⟩ => ?_⟩
    have := hy vs q
    rw [hv] at this; cases this
    subst ex eH
    have st : Stp F' H (upd F' T (.tup [.int (i : Nat), v])) (upd H T (.tup [.int (i : Nat), v])) := .tup s2 l2 nT (by show 2 ≤ sizeLine; decide)
    refine ⟨_, st, .tup upd_same (.cons ?_ (.cons (At.mono (s1.trans st.ff) av) .nil))⟩
    have : 0 + i = i := by omega
    rw [this]
    exact .int _
  · rw [enumD_len] at hi
    exact ⟨vs, .inl ((s1.trans s2).rd h), by rw [e.length]; exact Nat.le_of_eq hi⟩
theorem zipD_at : ∀ {l m : List D} {i : Nat} {d : D}, (zipD l m)[i]? = some d → ∃ e f, l[i]? = some e ∧ m[i]? = some f ∧ d = .tuple [e, f]
  | [], _, _, _, h => by simp [zipD] at h
  | _ :: _, [], _, _, h => by simp [zipD] at h
  | x :: r, y :: t, 0, _, h => by simp [zipD] at h; subst h; exact ⟨x, y, rfl, rfl, rfl⟩
  | x :: r, y :: t, i + 1, _, h => by
    simp only [zipD, List.getElem?_cons_succ] at h
    obtain ⟨e, f, h1, h2, h3⟩ := zipD_at h
    exact ⟨e, f, by simpa using h1, by simpa using h2, h3⟩
theorem zipD_len : ∀ (l m : List D), (zipD l m).length = min l.length m.length
  | [], _ => by simp [zipD]
  | _ :: _, [] => by simp [zipD]
  | x :: r, y :: t => by simp [zipD, zipD_len r t]
theorem jok_zip {a b : Addr} {vs us : List V} {l m : List D} (h : Rd F a (.lst vs)) (e : AtAll K F vs l) (h' : Rd F b (.lst us)) (e' : AtAll K F us m) (hl : l.length ≤ sizeLine) : JOk K F (zipD l m) (Itz K a b) := by
  refine ⟨by rw [zipD_len]; omega, fun i F' H s1 s2 l2 => ⟨fun d hd => ?_, fun hi => ?_⟩⟩
  · obtain ⟨d1, d2, he, hf, rfl⟩ := zipD_at hd
    obtain ⟨v, hv, av⟩ := e.get he
    obtain ⟨u, hu, au⟩ := e'.get hf
    have q : SqL K H a vs := .inl ((s1.trans s2).rd h)
    have q' : SqL K H b us := .inl ((s1.trans s2).rd h')
    refine ⟨⟨vs, us, v, u, q, q', hv, hu⟩, fun x H' ⟨T, y1, y2, ex, nT, eH, hy1, hy2⟩ => ?_⟩
    have := hy1 vs q
    rw [hv] at this; cases this
    have := hy2 us q'
    rw [hu] at this; cases this
    subst ex eH
    have st : Stp F' H (upd F' T (.tup [v, u])) (upd H T (.tup [v, u])) := .tup s2 l2 nT (by show 2 ≤ sizeLine; decide)
    exact ⟨_, st, .tup upd_same (.cons (At.mono (s1.trans st.ff) av) (.cons (At.mono (s1.trans st.ff) au) .nil))⟩
  · rw [zipD_len] at hi
    refine ⟨vs, us, .inl ((s1.trans s2).rd h), .inl ((s1.trans s2).rd h'), ?_⟩
    rw [e.length, e'.length]; omega
theorem jok_zipT {a b : Addr} {vs us : List V} {l m : List D} (h : F a = some (.tup vs)) (e : AtAll K F vs l) (h' : F b = some (.tup us)) (e' : AtAll K F us m) (hl : l.length ≤ sizeLine) : JOk K F (zipD l m) (RZ.ItzT K a b) := by
  refine ⟨by rw [zipD_len]; omega, fun i F' H s1 s2 l2 => ⟨fun d hd => ?_, fun hi => ?_⟩⟩
  · obtain ⟨d1, d2, he, hf, rfl⟩ := zipD_at hd
    obtain ⟨v, hv, av⟩ := e.get he
    obtain ⟨u, hu, au⟩ := e'.get hf
    have q : SqT K H a vs := .of ((s1.trans s2) _ _ h)
    have q' : SqT K H b us := .of ((s1.trans s2) _ _ h')
    refine ⟨⟨vs, us, v, u, q, q', hv, hu⟩, fun x H' ⟨T, y1, y2, ex, nT, eH, hy1, hy2⟩ => ?_⟩
    have := hy1 vs q
    rw [hv] at this; cases this
    have := hy2 us q'
    rw [hu] at this; cases this
    subst ex eH
    have st : Stp F' H (upd F' T (.tup [v, u])) (upd H T (.tup [v, u])) := .tup s2 l2 nT (by show 2 ≤ sizeLine; decide)
    exact ⟨_, st, .tup upd_same (.cons (At.mono (s1.trans st.ff) av) (.cons (At.mono (s1.trans st.ff) au) .nil))⟩
  · rw [zipD_len] at hi
    refine ⟨vs, us, .of ((s1.trans s2) _ _ h), .of ((s1.trans s2) _ _ h'), ?_⟩
    rw [e.length, e'.length]; omega
theorem zipD3_at : ∀ {l m k : List D} {i : Nat} {d : D}, (zipD3 l m k)[i]? = some d → ∃ e f g, l[i]? = some e ∧ m[i]? = some f ∧ k[i]? = some g ∧ d = .tuple [e, f, g]
  | [], _, _, _, _, h => by simp [zipD3] at h
  | _ :: _, [], _, _, _, h => by simp [zipD3] at h
  | _ :: _, _ :: _, [], _, _, h => by simp [zipD3] at h
  | x :: r, y :: t, u :: q, 0, _, h => by simp [zipD3] at h; subst h; exact ⟨x, y, u, rfl, rfl, rfl, rfl⟩
  | x :: r, y :: t, u :: q, i + 1, _, h => by
    simp only [zipD3, List.getElem?_cons_succ] at h
    obtain ⟨e, f, g, h1, h2, h3, h4⟩ := zipD3_at h
    exact ⟨e, f, g, by simpa using h1, by simpa using h2, by simpa using h3, h4⟩
theorem zipD3_len : ∀ (l m k : List D), (zipD3 l m k).length = min (min l.length m.length) k.length
  | [], _, _ => by simp [zipD3]
  | _ :: _, [], _ => by simp [zipD3]
  | _ :: _, _ :: _, [] => by simp [zipD3]
  | x :: r, y :: t, u :: q => by simp [zipD3, zipD3_len r t q] <;> omega
theorem jok_zipT3 {a b c : Addr} {vs us ws : List V} {l m k : List D} (h : F a = some (.tup vs)) (e : AtAll K F vs l) (h' : F b = some (.tup us)) (e' : AtAll K F us m) (h'' : F c = some (.tup ws)) (e'' : AtAll K F ws k) (hl : l.length ≤ sizeLine) : JOk K F (zipD3 l m k) (RZ.ItzT3 K a b c) := by
  refine ⟨by rw [zipD3_len]; omega, fun i F' H s1 s2 l2 => ⟨fun d hd => ?_, fun hi => ?_⟩⟩
  · obtain ⟨d1, d2, d3, he, hf, hg, rfl⟩ := zipD3_at hd
    obtain ⟨v, hv, av⟩ := e.get he
    obtain ⟨u, hu, au⟩ := e'.get hf
    obtain ⟨w, hw, aw⟩ := e''.get hg
    have q : SqT K H a vs := .of ((s1.trans s2) _ _ h)
    have q' : SqT K H b us := .of ((s1.trans s2) _ _ h')
    have q'' : SqT K H c ws := .of ((s1.trans s2) _ _ h'')
    refine ⟨⟨vs, us, ws, v, u, w, q, q', q'', hv, hu, hw⟩, fun x H' ⟨T, y1, y2, y3, ex, nT, eH, hy1, hy2, hy3⟩ => ?_⟩
    have := hy1 vs q
    rw [hv] at this; cases this
    have := hy2 us q'
    rw [hu] at this; cases this
    have := hy3 ws q''
    rw [hw] at this; cases this
    subst ex eH
    have st : Stp F' H (upd F' T (.tup [v, u, w])) (upd H T (.tup [v, u, w])) := .tup s2 l2 nT (by show 3 ≤ sizeLine; decide)
    exact ⟨_, st, .tup upd_same (.cons (At.mono (s1.trans st.ff) av) (.cons (At.mono (s1.trans st.ff) au) (.cons (At.mono (s1.trans st.ff) aw) .nil)))⟩
  · rw [zipD3_len] at hi
    have l1 := e.length
    have l2 := e'.length
    have l3 := e''.length
    refine ⟨vs, us, ws, .of ((s1.trans s2) _ _ h), .of ((s1.trans s2) _ _ h'), .of ((s1.trans s2) _ _ h''), ?_, ?_, ?_, ?_⟩ <;> omega
section
variable {X : Cx} {tg a b : Expr} {x y : Ex} {p pos tpos : Pos} {elts : List Expr} {kk : Nat}
theorem sndI_seq (ha : PE X a (rdE X.K W Φ x)) : PI X tg a (rdI X.K W Φ (.seq x)) := by
  refine PI.imp (pi_seq ha) fun σ H Q ⟨G, z, F, ρ, R, h⟩ => ?_
  simp only [evI] at h
  refine rd_frz R h fun d ρ1 F1 H1 v s1 R1 o1 h => ?_
  obtain ⟨l, e, h⟩ := h.optE
  cases o1 with
  | lst h1 h2 =>
    simp only [seqD] at e; cases e
    refine ⟨_, rfl, .inl ⟨⟨_, .inl (R1.fh.rd h1)⟩, ?_⟩⟩
    exact Evs.here h R1 _ (jok_list h1 h2 (by rw [← h2.length]; exact R1.hl _ _ (.inl h1)))
  | tup h1 h2 =>
    simp only [seqD] at e; cases e
    exact ⟨_, rfl, .inr ⟨⟨_, .of (R1.fh _ _ h1)⟩, Evs.here h R1 _ (jok_tup h1 h2 (by rw [← h2.length]; exact R1.hl _ _ (.inr (.inl h1))))⟩⟩
  | _ => simp [seqD] at e
theorem sndI_rng2 (hg : Gl X "range") (hm : X.mg "range" = none) (h1 : ∀ v p, a ≠ .Starred v p) (h2 : ∀ v p, b ≠ .Starred v p) (ha : PE X a (rdE X.K W Φ x)) (hb : PE X b (rdE X.K W Φ y)) : PI X tg (.Call (.Name "range" p) [a, b] [] pos) (rdI X.K W Φ (.rng x y)) := by
  refine PI.imp (pi_range2 hg hm (pa_cons ha (pa_cons hb pa_nil (star_of h2)) (star_of h1)) (by rw [star_of h1, star_of h2]; rfl) (by rw [star_of h2]; rfl)) fun σ H Q ⟨G, z, F, ρ, R, h⟩ => ?_
  simp only [evI] at h
  refine rd_any R h fun r ρ1 F1 H1 v s1 R1 o1 h' => rd_any R1 h' fun t ρ2 F2 H2 w s2 R2 o2 hh => ?_
  split at hh
  · rename_i i j
    split at hh
    · rename_i ok
      cases (show At X.K F1 v (.int i) from o1)
      cases (show At X.K F2 w (.int j) from o2)
      unfold rngOk at ok
      simp only [Bool.and_eq_true, decide_eq_true_eq] at ok
      exact ⟨i, j, rfl, ⟨ok.1, ok.2.1, ok.2.2.1, ok.2.2.2.1⟩, Evs.here hh R2 _ (jok_rng rfl rfl ok.2.2.2.2)⟩
    · exact hh.elim
  · exact hh.elim
theorem sndI_rng1 (hg : Gl X "range") (hm : X.mg "range" = none) (h1 : ∀ v p, a ≠ .Starred v p) (ha : PE X a (rdE X.K W Φ x)) : PI X tg (.Call (.Name "range" p) [a] [] pos) (rdI X.K W Φ (.rng (.lit (.int 0)) x)) := by
  refine PI.imp (pi_range1 hg hm (pa_cons ha pa_nil (star_of h1)) (by rw [star_of h1]; rfl)) fun σ H Q ⟨G, z, F, ρ, R, h⟩ => ?_
  simp only [evI, evE, bnd_ok] at h
  refine rd_any R h fun t ρ2 F2 H2 w s2 R2 o2 h => ?_
  split at h
  · rename_i i j e1
    split at h
    · rename_i ok
      cases e1
      cases (show At X.K F2 w (.int _) from o2)
      unfold rngOk at ok
      simp only [Bool.and_eq_true, decide_eq_true_eq] at ok
      exact ⟨j, rfl, ok.2.2.1, ok.2.2.2.1, Evs.here h R2 _ (jok_rng rfl (by simp) ok.2.2.2.2)⟩
    · exact h.elim
  · exact h.elim
theorem sndI_enum (hg : Gl X "enumerate") (hm : X.mg "enumerate" = none) (h1 : ∀ v p, a ≠ .Starred v p) (ha : PE X a (rdE X.K W Φ x)) : PI X (.Tuple elts kk tpos) (.Call (.Name "enumerate" p) [a] [] pos) (rdI X.K W Φ (.enum x)) := by
  refine PI.imp (pi_enum hg hm (pa_cons ha pa_nil (star_of h1)) (by rw [star_of h1]; rfl)) fun σ H Q ⟨G, z, F, ρ, R, h⟩ => ?_
  simp only [evI] at h
  refine rd_frz R h fun d ρ1 F1 H1 v s1 R1 o1 h => ?_
  split at h
  · cases o1 with
    | lst h1 h2 => exact ⟨_, _, rfl, .inl (R1.fh.rd h1), Evs.here h R1 _ (jok_enum h1 h2 (by rw [← h2.length]; exact R1.hl _ _ (.inl h1)))⟩
  · exact h.elim
theorem sndI_zip (hg : Gl X "zip") (hm : X.mg "zip" = none) (h1 : ∀ v p, a ≠ .Starred v p) (h2 : ∀ v p, b ≠ .Starred v p) (ha : PE X a (rdE X.K W Φ x)) (hb : PE X b (rdE X.K W Φ y)) : PI X (.Tuple elts kk tpos) (.Call (.Name "zip" p) [a, b] [] pos) (rdI X.K W Φ (.zip x y)) := by
  refine PI.imp (RZ.pi_zipA hg hm (pa_cons ha (pa_cons hb pa_nil (star_of h2)) (star_of h1)) (star_of h1) (noStars (by simpa using h2) _ _)) fun σ H Q ⟨G, z, F, ρ, R, h⟩ => ?_
  simp only [evI] at h
  refine rd_frz R h fun d ρ1 F1 H1 v s1 R1 o1 h => rd_frz R1 h fun e ρ2 F2 H2 w s2 R2 o2 h => ?_
  split at h
  · cases (At.mono s2 o1) with
    | lst h1 h2 =>
      cases o2 with
      | lst h3 h4 => exact ⟨_, _, _, _, rfl, .inl ⟨.inl (R2.fh.rd h1), .inl (R2.fh.rd h3), Evs.here h R2 _ (jok_zip h1 h2 h3 h4 (by rw [← h2.length]; exact R2.hl _ _ (.inl h1)))⟩⟩
  · cases (At.mono s2 o1) with
    | tup h1 h2 =>
      cases o2 with
      | tup h3 h4 => exact ⟨_, _, _, _, rfl, .inr ⟨.of (R2.fh _ _ h1), .of (R2.fh _ _ h3), Evs.here h R2 _ (jok_zipT h1 h2 h3 h4 (by rw [← h2.length]; exact R2.hl _ _ (.inr (.inl h1))))⟩⟩
  · exact h.elim
theorem sndI_zip3 {c : Expr} {u : Ex} (hg : Gl X "zip") (hm : X.mg "zip" = none) (h1 : ∀ v p, a ≠ .Starred v p) (h2 : ∀ v p, b ≠ .Starred v p) (h3 : ∀ v p, c ≠ .Starred v p) (ha : PE X a (rdE X.K W Φ x)) (hb : PE X b (rdE X.K W Φ y)) (hc : PE X c (rdE X.K W Φ u)) : PI X (.Tuple elts kk tpos) (.Call (.Name "zip" p) [a, b, c] [] pos) (rdI X.K W Φ (.zip3 x y u)) := by
  refine PI.imp (RZ.pi_zipT3 hg hm (pa_cons ha (pa_cons hb (pa_cons hc pa_nil (star_of h3)) (star_of h2)) (star_of h1)) (star_of h1) (noStars (by intro e he; simp at he; rcases he with rfl | rfl; exact h2; exact h3) _ _)) fun σ H Q ⟨G, z, F, ρ, R, h⟩ => ?_
  simp only [evI] at h
  refine rd_frz R h fun d ρ1 F1 H1 v s1 R1 o1 h => rd_frz R1 h fun e ρ2 F2 H2 w s2 R2 o2 h => rd_frz R2 h fun f ρ3 F3 H3 w3 s3 R3 o3 h => ?_
  split at h
  · cases (At.mono (s2.trans s3) o1) with
    | tup h1 h2 =>
      cases (At.mono s3 o2) with
      | tup h3 h4 =>
        cases o3 with
        | tup h5 h6 => exact ⟨_, _, _, _, _, _, rfl, .of (R3.fh _ _ h1), .of (R3.fh _ _ h3), .of (R3.fh _ _ h5), Evs.here h R3 _ (jok_zipT3 h1 h2 h3 h4 h5 h6 (by rw [← h2.length]; exact R3.hl _ _ (.inr (.inl h1))))⟩
  · exact h.elim
end
end Sn

namespace Sn
open PySem PySem.Spec L2
variable {K : PySem.W.Frag} {F F' H H' G : Hp} {z : Pz} {ρ ρ' : List Sl} {σ σ' : St} {W : Str → St → Hp → Prop} {Φ : Nat → List D → Out} {α β : Type}

theorem bnd_eq_ok {r : Res α} {f : α → List Sl → Res β} {b : β} (h : bnd r f = .ok b ρ') : ∃ a ρ1, r = .ok a ρ1 ∧ f a ρ1 = .ok b ρ' := by
  cases r with
  | ok a ρ1 => exact ⟨a, ρ1, rfl, h⟩
  | ex c ρ1 => cases h
  | no => cases h
def rdGs (K : PySem.W.Frag) (t : Tg) : TGs := fun vs σ H Q => ∃ G z F ρ ds ρ', Rep K G z F ρ σ H ∧ AtAll K F vs ds ∧ asg t (.tuple ds) ρ = .ok () ρ' ∧
  ∀ σ', σ'.length = σ.length → (∀ j, j ∉ slots t → σ'[j]? = σ[j]?) → Rep K G z F ρ' σ' H → Q σ' H
section
variable {X : Cx} {pos : Pos}
theorem PGs.imp {es : List Expr} {t t' : TGs} (h : PGs X es t) (i : ∀ v σ H Q, t' v σ H Q → t v σ H Q) : PGs X es t' := ⟨fun pins s σ H vs us Q I r q => h.run pins s σ H vs us Q I r (i vs σ H Q q)⟩
theorem sndG_nm {i : Nat} {x : Str} (hN : X.N.Nodup) (hi : X.N[i]? = some x) (hx : Loc X.env.scope x) (hf : X.fn x = true ∨ X.env.scope.names.lookup x = some .local) : PG X (.Name x pos) (rdG X.K (.nm i)) := by
  refine PG.imp (pg_name hN hi hx hf) fun v σ H Q ⟨G, z, F, ρ, d, ρ', R, a, e, q⟩ => ?_
  obtain ⟨rfl, l⟩ := setS_ok (show setS i (.v d) ρ = .ok () ρ' from e)
  exact q _ (by simp) (fun j hj => by rw [List.getElem?_set_ne]; rintro rfl; exact hj (by simp [slots])) (R.store l (show StOk X.K G F H ρ σ i v (.v d) from a))
theorem sndGs_nil : PGs X [] (rdGs X.K .nl) := by
  refine PGs.imp pgs_nil fun vs σ H Q ⟨G, z, F, ρ, ds, ρ', R, a, e, q⟩ => ?_
  cases ds with
  | nil =>
    cases a
    cases (show (Res.ok () ρ : Res Unit) = .ok () ρ' from e)
    exact ⟨rfl, q σ rfl (fun _ _ => rfl) R⟩
  | cons d ds => cases e
theorem asg_star {e : Expr} {es : List Expr} {env : PySem.Env} (h : ∀ v p, e ≠ .Starred v p) : assignEach (e :: es) env = (false, assign e env) :: assignEach es env := by
  cases e <;> first | rfl | exact absurd rfl (h _ _)
theorem sndGs_cons {e : Expr} {es : List Expr} {t r : Tg} (h : ∀ v p, e ≠ .Starred v p) (h1 : PG X e (rdG X.K t)) (h2 : PGs X es (rdGs X.K r)) : PGs X (e :: es) (rdGs X.K (.cs t r)) := by
  refine PGs.imp (pgs_cons h1 h2 (by rw [asg_star h]; rfl)) fun vs σ H Q ⟨G, z, F, ρ, ds, ρ', R, a, e, q⟩ => ?_
  cases ds with
  | nil => cases e
  | cons d ds =>
    cases a with
    | cons a1 a2 =>
      obtain ⟨_, ρ1, e1, e2⟩ := bnd_eq_ok (show bnd (asg t d ρ) (fun _ ρ => asg r (.tuple ds) ρ) = .ok () ρ' from e)
      refine ⟨_, _, rfl, G, z, F, ρ, d, ρ1, R, a1, e1, fun σ1 l1 k1 R1 => ⟨G, z, F, ρ1, ds, ρ', R1, a2, e2, fun σ2 l2 k2 R2 => q σ2 (l2.trans l1) (fun j hj => ?_) R2⟩⟩
      simp only [slots, List.mem_append, not_or] at hj
      rw [k2 j hj.2, k1 j hj.1]
theorem asgEach_all {es : List Expr} {env : PySem.Env} (h : ∀ e ∈ es, ∀ v p, e ≠ .Starred v p) : (assignEach es env).length = es.length ∧ (assignEach es env).findIdx? (·.1) = none := by
  induction es with
  | nil => exact ⟨rfl, rfl⟩
  | cons e es ih =>
    obtain ⟨h1, h2⟩ := ih fun e he => h e (by simp [he])
    rw [asg_star (h e (by simp))]
    refine ⟨by simp [h1], ?_⟩
    rw [List.findIdx?_cons, h2]
    rfl
theorem PG.or {e : Expr} {t t' : TG} (h : PG X e t) (h' : PG X e t') : PG X e (fun v σ H Q => t v σ H Q ∨ t' v σ H Q) := ⟨fun pins s σ H v u Q I r q => by
  rcases q with q | q
  · exact h.run pins s σ H v u Q I r q
  · exact h'.run pins s σ H v u Q I r q⟩
/-- as many as the target has -/
def tgLen : Tg → Option Nat
  | .nl => some 0
  | .cs _ r => (tgLen r).map (· + 1)
  | _ => none
theorem asg_len : ∀ {t : Tg} {n : Nat} {ds : List D} {ρ ρ' : List Sl}, tgLen t = some n → asg t (.tuple ds) ρ = .ok () ρ' → ds.length = n
  | .nl, n, ds, ρ, ρ', h, e => by
    cases h
    cases ds with
    | nil => rfl
    | cons d ds => cases e
  | .cs t r, n, ds, ρ, ρ', h, e => by
    simp only [tgLen, Option.map_eq_some_iff] at h
    obtain ⟨m, h1, rfl⟩ := h
    cases ds with
    | nil => cases e
    | cons d ds =>
      obtain ⟨_, ρ1, e1, e2⟩ := bnd_eq_ok (show bnd (asg t d ρ) (fun _ ρ => asg r (.tuple ds) ρ) = .ok () ρ' from e)
      simp [asg_len h1 e2]
  | .nm _, _, _, _, _, h, _ => by cases h
  | .tp _, _, _, _, _, h, _ => by cases h
theorem sndG_tp {es : List Expr} {k : Nat} {c : Tg} (hc : X.calm = true) (hs : ∀ e ∈ es, ∀ v p, e ≠ .Starred v p) (hl : tgLen c = some es.length) (h : PGs X es (rdGs X.K c)) : PG X (.Tuple es k pos) (rdG X.K (.tp c)) := by
  have hh := asgEach_all (env := X.env) hs
  refine PG.imp (PG.or (pg_tup hc h hh.1 hh.2) (pg_lst hc h hh.1 hh.2)) fun v σ H Q ⟨G, z, F, ρ, d, ρ', R, a, e, q⟩ => ?_
  cases d with
  | tuple ds =>
    cases a with
    | tup a1 a2 => exact .inl ⟨_, _, rfl, .of (R.fh _ _ a1), by rw [a2.length]; exact asg_len hl (show asg c (.tuple ds) ρ = .ok () ρ' from e), G, z, F, ρ, ds, ρ', R, a2, e, q⟩
  | list ds =>
    cases a with
    | lst a1 a2 => exact .inr ⟨_, _, rfl, .inl (R.fh.rd a1), by rw [a2.length]; exact asg_len hl (show asg c (.tuple ds) ρ = .ok () ρ' from e), G, z, F, ρ, ds, ρ', R, a2, e, q⟩
  | _ => cases e
end

theorem wipeE_len (ρ : List Sl) : ∀ own : List Nat, (wipeE ρ own).length = ρ.length
  | [] => rfl
  | i :: r => by simp [wipeE, wipeE_len ρ r]
theorem wipeE_out {i : Nat} : ∀ {own : List Nat}, i ∉ own → (wipeE ρ own)[i]? = ρ[i]?
  | [], _ => rfl
  | j :: r, h => by
    simp only [List.mem_cons, not_or] at h
    simp only [wipeE]
    rw [List.getElem?_set_ne (Ne.symm h.1)]
    exact wipeE_out h.2
theorem wipeE_in {i : Nat} : ∀ {own : List Nat}, i ∈ own → i < ρ.length → (wipeE ρ own)[i]? = some .un
  | j :: r, h, l => by
    simp only [wipeE]
    by_cases c : j = i
    · subst c
      rw [List.getElem?_set_self (by rw [wipeE_len]; exact l)]
    · rw [List.getElem?_set_ne c]
      rcases List.mem_cons.mp h with h | h
      · exact absurd h.symm c
      · exact wipeE_in h l
theorem wipe_in {i : Nat} : ∀ {own : List Nat}, i ∈ own → i < σ.length → (wipe σ own)[i]? = some none
  | j :: r, h, l => by
    simp only [wipe]
    by_cases c : j = i
    · subst c
      rw [List.getElem?_set_self (by rw [wipe_length]; exact l)]
    · rw [List.getElem?_set_ne c]
      rcases List.mem_cons.mp h with h | h
      · exact absurd h.symm c
      · exact wipe_in h l
theorem backE_len (ρ0 : List Sl) : ∀ (own : List Nat) (ρ : List Sl), (backE ρ0 own ρ).length = ρ.length
  | [], _ => rfl
  | i :: r, ρ => by simp [backE, backE_len ρ0 r ρ]
theorem backE_out {ρ0 : List Sl} {i : Nat} : ∀ {own : List Nat}, i ∉ own → (backE ρ0 own ρ)[i]? = ρ[i]?
  | [], _ => rfl
  | j :: r, h => by
    simp only [List.mem_cons, not_or] at h
    simp only [backE]
    rw [List.getElem?_set_ne (Ne.symm h.1)]
    exact backE_out h.2
theorem backE_in {ρ0 : List Sl} {i : Nat} : ∀ {own : List Nat}, i ∈ own → i < ρ.length → (backE ρ0 own ρ)[i]? = some (ρ0.getD i .un)
  | j :: r, h, l => by
    simp only [backE]
    by_cases c : j = i
    · subst c
      rw [List.getElem?_set_self (by rw [backE_len]; exact l)]
    · rw [List.getElem?_set_ne c]
      rcases List.mem_cons.mp h with h | h
      · exact absurd h.symm c
      · exact backE_in h l
theorem Rep.wipe (P : Rep K G z F ρ σ H) (own : List Nat) : Rep K G z F (wipeE ρ own) (L2.wipe σ own) H := by
  have ow : ∀ i a, Own (wipeE ρ own) (L2.wipe σ own) i a → Own ρ σ i a := fun i a o => by
    obtain ⟨f, c, e, q⟩ := o
    by_cases h : i ∈ own
    · rw [wipeE_in h (by have := (List.getElem?_eq_some_iff.mp e).1; rw [wipeE_len] at this; exact this)] at e
      cases e
    · rw [wipeE_out h] at e
      rw [wipe_out h] at q
      exact ⟨f, c, e, q⟩
  refine ⟨by rw [wipeE_len, wipe_length]; exact P.len, P.fh, P.gh, P.fg, P.hl, fun i s e => ?_, fun i j a h1 h2 => P.ap i j a (ow i a h1) (ow j a h2), P.gt⟩
  have l : i < ρ.length := by have := (List.getElem?_eq_some_iff.mp e).1; rw [wipeE_len] at this; exact this
  by_cases h : i ∈ own
  · rw [wipeE_in h l] at e
    cases e
    rw [wipe_in h (by rw [← P.len]; exact l)]
    exact ⟨_, rfl, trivial⟩
  · rw [wipeE_out h] at e
    rw [wipe_out h]
    exact P.sl i s e
theorem Rep.unwipe {ρ1 ρ2 : List Sl} {F1 F2 H1 H2 : Hp} {own : List Nat} (P1 : Rep K G z F1 ρ1 σ H1) (fr : freeE ρ1 own = true) (s : Sub F1 F2) (P2 : Rep K G z F2 (wipeE ρ2 own) (L2.wipe σ own) H2) : Rep K G z F2 (backE ρ1 own ρ2) σ H2 := by
  have l2 : ρ2.length = σ.length := by have := P2.len; rw [wipeE_len, wipe_length] at this; exact this
  have fr' : ∀ i ∈ own, ∃ s, ρ1[i]? = some s ∧ (s = .un ∨ ∃ d, s = .v d) := fun i hi => by
    unfold freeE at fr
    rw [List.all_eq_true] at fr
    have := fr i hi
    split at this
    · cases this
    · cases this
    · cases this
    · rename_i o n1 n2 n3
      cases q : ρ1[i]? with
      | none => exact absurd q n3
      | some s =>
        refine ⟨s, rfl, ?_⟩
        cases s with
        | un => exact .inl rfl
        | v d => exact .inr ⟨d, rfl⟩
        | ow f c => exact absurd q (n1 f c)
        | lk => exact absurd q n2
  have ow : ∀ i a, Own (backE ρ1 own ρ2) σ i a → Own (wipeE ρ2 own) (L2.wipe σ own) i a := fun i a o => by
    obtain ⟨f, c, e, q⟩ := o
    have l : i < ρ2.length := by have := (List.getElem?_eq_some_iff.mp e).1; rw [backE_len] at this; exact this
    by_cases h : i ∈ own
    · rw [backE_in h l] at e
      obtain ⟨s, e1, e2⟩ := fr' i h
      rw [List.getD_eq_getElem?_getD, e1] at e
      rcases e2 with rfl | ⟨d, rfl⟩ <;> cases e
    · rw [backE_out h] at e
      exact ⟨f, c, by rw [wipeE_out h]; exact e, by rw [wipe_out h]; exact q⟩
  refine ⟨by rw [backE_len]; exact l2, P2.fh, P2.gh, P2.fg, P2.hl, fun i t e => ?_, fun i j a h1 h2 => P2.ap i j a (ow i a h1) (ow j a h2), P2.gt⟩
  have l : i < ρ2.length := by have := (List.getElem?_eq_some_iff.mp e).1; rw [backE_len] at this; exact this
  by_cases h : i ∈ own
  · rw [backE_in h l] at e
    obtain ⟨t', e1, e2⟩ := fr' i h
    rw [List.getD_eq_getElem?_getD, e1] at e
    cases e
    obtain ⟨o, q1, q2⟩ := P1.sl i t' e1
    refine ⟨o, q1, ?_⟩
    rcases e2 with rfl | ⟨d, rfl⟩
    · trivial
    · obtain ⟨v, q3, q4⟩ := q2
      exact ⟨v, q3, At.mono s q4⟩
  · rw [backE_out h] at e
    have := P2.sl i t (by rw [wipeE_out h]; exact e)
    rw [wipe_out h] at this
    exact this
theorem wipe_same {own : List Nat} (l : σ'.length = σ.length) (k : ∀ j, j ∉ own → σ'[j]? = (L2.wipe σ own)[j]?) : L2.wipe σ' own = L2.wipe σ own := by
  apply List.ext_getElem?
  intro j
  by_cases h : j ∈ own
  · by_cases q : j < σ.length
    · rw [wipe_in h q, wipe_in h (by rw [l]; exact q)]
    · rw [List.getElem?_eq_none (by rw [wipe_length]; omega), List.getElem?_eq_none (by rw [wipe_length]; omega)]
  · rw [wipe_out h, k j h]
/-- a new object is a constant for a while -/
theorem Rep.addG (P : Rep K G z F ρ σ H) {a : Addr} {o : HO} (ho : H a = some o) (nt : ∀ xs, o ≠ .tup xs) (hF : F a = none) (hG : G a = none) (hO : ∀ i, ¬ Own ρ σ i a) : Rep K (upd G a o) z F ρ σ H := by
  refine ⟨P.len, P.fh, fun b u e => ?_, fun b e => ?_, P.hl, fun i s e => ?_, P.ap, fun b xs e => ?_⟩
  · by_cases q : b = a
    · subst q; rw [upd_same] at e; cases e; exact ho
    · rw [upd_ne q] at e; exact P.gh _ _ e
  · rw [upd_ne (by rintro rfl; exact e hF)]; exact P.fg _ e
  · obtain ⟨w, q1, q2⟩ := P.sl i s e
    refine ⟨w, q1, ?_⟩
    cases s with
    | un => trivial
    | v d => exact q2
    | ow f c =>
      obtain ⟨b, q3, q4, q5, q6, q7⟩ := q2
      exact ⟨b, q3, q4, q5, by rw [upd_ne]; exact q6; rintro rfl; exact hO i ⟨f, c, e, by rw [q1, q3]⟩, q7⟩
    | lk => exact q2
  · by_cases q : b = a
    · subst q; rw [upd_same] at e; cases e; exact nt _ rfl
    · rw [upd_ne q] at e; exact P.gt _ _ e
theorem Rep.dropG {a : Addr} {o : HO} (P : Rep K (upd G a o) z F ρ σ H) (hG : G a = none) : Rep K G z F ρ σ H ∧ H a = some o ∧ F a = none ∧ ∀ i, ¬ Own ρ σ i a := by
  have hF : F a = none := by
    cases e : F a with
    | none => rfl
    | some u =>
      have := P.fg a (by rw [e]; simp)
      rw [upd_same] at this; cases this
  refine ⟨⟨P.len, P.fh, fun b u e => ?_, fun b e => ?_, P.hl, fun i s e => ?_, P.ap, fun b xs e => ?_⟩, P.gh _ _ upd_same, hF, fun i oo => ?_⟩
  · exact P.gh b u (by rw [upd_ne (by rintro rfl; rw [hG] at e; cases e)]; exact e)
  · have := P.fg b e
    by_cases q : b = a
    · subst q; exact hG
    · rw [upd_ne q] at this; exact this
  · obtain ⟨w, q1, q2⟩ := P.sl i s e
    refine ⟨w, q1, ?_⟩
    cases s with
    | un => trivial
    | v d => exact q2
    | ow f c =>
      obtain ⟨b, q3, q4, q5, q6, q7⟩ := q2
      refine ⟨b, q3, q4, q5, ?_, q7⟩
      by_cases q : b = a
      · subst q; exact hG
      · rw [upd_ne q] at q6; exact q6
    | lk => exact q2
  · by_cases q : b = a
    · subst q; rw [hG] at e; cases e
    · exact P.gt b xs (by rw [upd_ne q]; exact e)
  · have := (P.own_none oo).2.1
    rw [upd_same] at this; cases this
theorem Evs.noX {W' : Str → St → Hp → Prop} {r : Res α} {f : α → List Sl → Res β} {P : β → List Sl → Hp → Hp → Prop} {P1 : α → List Sl → Hp → Hp → Prop} (h : Evs K G z W σ F (bnd (Sn.noX r) f) P)
    (k : ∀ a ρ' F' H', Sub F F' → Rep K G z F' ρ' σ H' → Evs K G z W σ F' (f a ρ') P → P1 a ρ' F' H') : Evs K G z W' σ F r P1 := by
  cases r with
  | ok a ρ' => exact fun F2 H2 s2 R => k _ _ _ _ s2 R (Evs.mono s2 h)
  | ex c ρ' => exact h.elim
  | no => exact h
theorem asg_ex : ∀ {t : Tg} {d : D} {c : Str} {ρ ρ' : List Sl}, asg t d ρ ≠ .ex c ρ'
  | .nm i, d, c, _, _ => setS_ex
  | .tp t, d, c, _, _ => by cases d <;> first | exact asg_ex (t := t) | (intro h; cases h)
  | .nl, d, c, _, _ => by
    cases d <;> try (intro h; cases h)
    rename_i ds
    cases ds <;> intro h <;> cases h
  | .cs t r, d, c, ρ, ρ' => by
    cases d <;> try (intro h; cases h; done)
    rename_i ds
    cases ds with
    | nil => intro h; cases h
    | cons d ds =>
      intro h
      have h : bnd (asg t d ρ) (fun _ ρ => asg r (.tuple ds) ρ) = .ex c ρ' := h
      cases q : asg t d ρ with
      | ok a ρ1 => rw [q] at h; exact asg_ex (t := r) h
      | ex c' ρ1 => exact asg_ex (t := t) q
      | no => rw [q] at h; cases h
end Sn

namespace Sn
open PySem PySem.Spec L2
variable {K : PySem.W.Frag} {F F' H H' G : Hp} {z : Pz} {ρ ρ' : List Sl} {σ σ' : St} {W : Str → St → Hp → Prop} {Φ : Nat → List D → Out} {α β : Type}

theorem back_own {ρ1 ρ2 : List Sl} {own : List Nat} (fr : freeE ρ1 own = true) {i : Nat} {a : Addr} (o : Own (backE ρ1 own ρ2) σ i a) : Own (wipeE ρ2 own) (wipe σ own) i a := by
  obtain ⟨f, c, e, q⟩ := o
  have l : i < ρ2.length := by have := (List.getElem?_eq_some_iff.mp e).1; rw [backE_len] at this; exact this
  by_cases h : i ∈ own
  · rw [backE_in h l] at e
    unfold freeE at fr
    rw [List.all_eq_true] at fr
    have := fr i h
    rw [List.getD_eq_getElem?_getD] at e
    split at this
    · cases this
    · cases this
    · cases this
    · rename_i n1 n2 n3
      cases q : ρ1[i]? with
      | none => exact absurd q n3
      | some s =>
        rw [q] at e
        simp only [Option.getD_some] at e
        cases e
        exact absurd q (n1 f c)
  · rw [backE_out h] at e
    exact ⟨f, c, by rw [wipeE_out h]; exact e, by rw [wipe_out h]; exact q⟩
theorem Rep.updH (P : Rep K G z F ρ σ H) {a : Addr} {o : HO} (hF : F a = none) (hG : G a = none) (hO : ∀ i, ¬ Own ρ σ i a) : Rep K G z F ρ σ (upd H a o) := by
  refine ⟨P.len, fun b u e => ?_, fun b u e => ?_, P.fg, P.hl, fun i s e => ?_, P.ap, P.gt⟩
  · rw [upd_ne (by rintro rfl; rw [hF] at e; cases e)]; exact P.fh _ _ e
  · rw [upd_ne (by rintro rfl; rw [hG] at e; cases e)]; exact P.gh _ _ e
  · obtain ⟨w, q1, q2⟩ := P.sl i s e
    refine ⟨w, q1, ?_⟩
    cases s with
    | un => trivial
    | v d => exact q2
    | ow f c =>
      obtain ⟨b, q3, q4, q5, q6, q7⟩ := q2
      exact ⟨b, q3, q4, q5, q6, COk.mono .refl (upd_ne (by rintro rfl; exact hO i ⟨f, c, e, by rw [q1, q3]⟩)) q7⟩
    | lk => exact q2
theorem noX_ex {r : Res α} {c : Str} : Sn.noX r ≠ .ex c ρ' := by
  cases r <;> intro h <;> cases h
theorem lcL_ex {own : List Nat} {tg : Tg} {cd : List Sl → Res Bool} {elt : List Sl → Res D} {c : Str} : ∀ {l acc : List D} {ρ ρ' : List Sl}, lcL own tg cd elt l acc ρ ≠ .ex c ρ'
  | [], acc, ρ, ρ' => by intro h; cases h
  | d :: ds, acc, ρ, ρ' => by
    intro h
    simp only [lcL] at h
    cases q : asg tg d (wipeE ρ own) with
    | no => rw [q] at h; cases h
    | ex c' ρ1 => exact asg_ex q
    | ok a ρ1 =>
      rw [q] at h
      simp only [bnd_ok] at h
      cases q2 : Sn.noX (cd ρ1) with
      | no => rw [q2] at h; cases h
      | ex c' ρ2 => exact noX_ex q2
      | ok b ρ2 =>
        rw [q2] at h
        simp only [bnd_ok] at h
        cases b with
        | false => simp only [Bool.false_eq_true, if_false] at h; exact lcL_ex h
        | true =>
          simp only [if_true] at h
          cases q3 : Sn.noX (elt ρ2) with
          | no => rw [q3] at h; cases h
          | ex c' ρ2 => exact noX_ex q3
          | ok e ρ3 => rw [q3] at h; exact lcL_ex h
/-- what the rest of a comprehension's turns is to reach -/
def LcRem (K : PySem.W.Frag) (G : Hp) (z : Pz) (σ : St) (own : List Nat) (E : Addr) (Q : VK) (F : Hp) (r : Res (List D)) : Prop := match r with
  | .ok ds ρ3 => ∀ F3 H3 ws, Sub F F3 → Rep K G z F3 (wipeE ρ3 own) (wipe σ own) H3 → AtAll K F3 ws ds → H3 E = some (.lst ws) → F3 E = none → (∀ i, ¬ Own (wipeE ρ3 own) (wipe σ own) i E) → ds.length ≤ sizeLine → Q (.ref E) H3
  | _ => False
theorem LcRem.mono {own : List Nat} {E : Addr} {Q : VK} {r : Res (List D)} (s : Sub F F') (h : LcRem K G z σ own E Q F r) : LcRem K G z σ own E Q F' r := by
  cases r with
  | ok ds ρ3 => exact fun F3 H3 ws s3 => h F3 H3 ws (s.trans s3)
  | ex c ρ => exact h
  | no => exact h
theorem LcRem.ok {own : List Nat} {E : Addr} {Q : VK} {r : Res α} {f : α → List Sl → Res (List D)} (h : LcRem K G z σ own E Q F (bnd r f)) : ∃ a ρ1, r = .ok a ρ1 ∧ LcRem K G z σ own E Q F (f a ρ1) := by
  cases r with
  | ok a ρ1 => exact ⟨a, ρ1, rfl, h⟩
  | ex c ρ => exact h.elim
  | no => exact h.elim
theorem noX_ok {r : Res α} {a : α} (h : Sn.noX r = .ok a ρ') : r = .ok a ρ' := by
  cases r <;> first | exact h | cases h
abbrev noW : Str → St → Hp → Prop := fun _ _ _ => False
theorem rd_lc {elt cd : Ex} {tg : Tg} {it : It} {own : List Nat} (hso : ∀ j ∈ slots tg, j ∈ own) {Q : VK} (h : rdE K W Φ (.lc elt tg it cd own) σ H Q) :
    tLc (rdI K W Φ it) (rdG K tg) (rdT K noW Φ cd) (rdE K noW Φ elt) own σ H Q := by
  obtain ⟨G, z, F, ρ, R, h⟩ := h
  simp only [evE] at h
  refine ⟨G, z, F, ρ, R, Evs.seq h fun l ρ1 F1 H1 s1 R1 h1 J jok => ?_⟩
  split at h1
  case isFalse => exact h1.elim
  rename_i fr
  intro E nE
  have nF : F1 E = none := R1.fh.none nE
  have nG : G E = none := R1.gh.none nE
  have nO : ∀ {ρx : List Sl} {σx : St}, Rep K G z F1 ρx σx H1 → ∀ i, ¬ Own ρx σx i E := fun P i o => (P.own_none o).2.2 nE
  have Rw := R1.wipe own
  refine ⟨fun i m H2 => ∃ F2 ρ2 acc ds, Sub F1 F2 ∧ Rep K (upd G E (.lst acc)) z F2 (wipeE ρ2 own) (wipe σ own) H2 ∧ AtAll K F2 acc ds ∧ ds.length ≤ i ∧ i ≤ l.length ∧ m = l.length - i ∧
    LcRem K G z σ own E Q F2 (lcL own tg (fun ρ => bnd (evE Φ cd ρ) toB) (fun ρ => bnd (evE Φ elt ρ) frz) (l.drop i) ds ρ2), ⟨l.length, F1, ρ1, [], [], .refl, ?_, .nil, Nat.le_refl _, Nat.zero_le _, rfl, ?_⟩, ?_⟩
  · exact (Rw.updH nF nG (nO Rw)).addG upd_same (fun xs e => by cases e) nF nG (nO Rw)
  · rw [List.drop_zero]
    cases q : lcL own tg (fun ρ => bnd (evE Φ cd ρ) toB) (fun ρ => bnd (evE Φ elt ρ) frz) l [] ρ1 with
    | no => rw [q] at h1; exact h1.elim
    | ex c ρ2 => exact (lcL_ex q).elim
    | ok ds ρ3 =>
      rw [q] at h1
      intro F3 H3 ws s R3 a hE nF3 nO3 hl
      exact h1 F3 H3 s (R1.unwipe fr s R3) (.ref E) ⟨E, rfl, nF3, nG, fun i o => nO3 i (back_own fr o), ws, hE, a, hl⟩
  · rintro i m H2 ⟨F2, ρ2, acc, ds, s2, R2, a2, hdl, hil, rfl, rem⟩
    obtain ⟨R2', hE2, nF2, nO2⟩ := R2.dropG nG
    obtain ⟨jl, jj⟩ := jok
    obtain ⟨j1, j2⟩ := jj i F2 H2 s2 R2.fh R2.hl
    by_cases hlt : i < l.length
    · have hd : l[i]? = some l[i] := List.getElem?_eq_getElem hlt
      obtain ⟨go, yl⟩ := j1 _ hd
      rw [List.drop_eq_getElem_cons hlt] at rem
      simp only [lcL] at rem
      refine .inr ⟨go, fun H5 => ∃ F2 ρ2 acc ds, Sub F1 F2 ∧ Rep K (upd G E (.lst acc)) z F2 (wipeE ρ2 own) (wipe σ own) H5 ∧ AtAll K F2 acc ds ∧ ds.length ≤ i + 1 ∧
        LcRem K G z σ own E Q F2 (lcL own tg (fun ρ => bnd (evE Φ cd ρ) toB) (fun ρ => bnd (evE Φ elt ρ) frz) (l.drop (i + 1)) ds ρ2), ?_, ?_⟩
      · rintro H5 ⟨F5, ρ5, acc5, ds5, q1, q2, q3, q4, q5⟩
        exact ⟨l.length - (i + 1), by omega, F5, ρ5, acc5, ds5, q1, q2, q3, q4, hlt, rfl, q5⟩
      · intro x H3 hy
        obtain ⟨F3, st, ax⟩ := yl x H3 hy
        obtain ⟨_, ρa, ea, rem⟩ := rem.ok
        have R3 := R2.stp st
        refine ⟨upd G E (.lst acc), z, F3, wipeE ρ2 own, l[i], ρa, R3, ax, ea, fun σ2 len2 k2 R4 => ?_⟩
        have hw : wipe σ2 own = wipe σ own := wipe_same (by rw [len2, wipe_length]) (fun j hj => k2 j fun z => hj (hso j z))
        refine ⟨hw, ?_⟩
        obtain ⟨b, ρb, eb, rem⟩ := rem.ok
        have eb := noX_ok eb
        refine ⟨upd G E (.lst acc), z, F3, ρa, R4, ?_⟩
        rw [eb]
        intro F4 H4 s4 R5
        -- the turn's end
        have fin : ∀ {F5 H5 : Hp} {ρ5 : List Sl}, Sub F4 F5 → Rep K (upd G E (.lst acc)) z F5 ρ5 σ2 H5 → Rep K (upd G E (.lst acc)) z F5 (wipeE ρ5 own) (wipe σ own) H5 := fun {F5 H5 ρ5} s5 P => by
          have := P.wipe own
          rw [hw] at this
          exact this
        cases b with
        | false =>
          simp only [Bool.false_eq_true, if_false] at rem ⊢
          exact ⟨F4, ρb, acc, ds, s2.trans (st.ff.trans s4), fin .refl R5, AtAll.mono (st.ff.trans s4) a2, Nat.le_succ_of_le hdl, rem.mono (st.ff.trans s4)⟩
        | true =>
          simp only [if_true] at rem ⊢
          obtain ⟨e, ρe, ee, rem⟩ := rem.ok
          have ee := noX_ok ee
          have hev : Evs K (upd G E (.lst acc)) z noW σ2 F4 (bnd (evE Φ elt ρb) fun x ρ => frz x ρ) (fun d ρ' _ _ => d = e ∧ ρ' = ρe) := by
            show Evs K (upd G E (.lst acc)) z noW σ2 F4 (bnd (evE Φ elt ρb) frz) _
            rw [ee]
            exact fun _ _ _ _ => ⟨rfl, rfl⟩
          refine rd_frzE R5 hev fun d ρ5 F5 H5 y s5 R6 ay hde => ?_
          obtain ⟨rfl, rfl⟩ := hde
          have R7 := fin s5 R6
          obtain ⟨R8, hE8, nF8, nO8⟩ := R7.dropG nG
          have sAll : Sub F2 F5 := st.ff.trans (s4.trans s5)
          refine ⟨acc, hE8, ?_, F5, ρ5, acc ++ [y], ds ++ [d], s2.trans sAll, ?_, AtAll.append (AtAll.mono sAll a2) (.one ay), by rw [List.length_append]; simpa using hdl, rem.mono sAll⟩
          · rw [a2.length]; omega
          · exact (R8.updH nF8 nG nO8).addG upd_same (fun xs e => by cases e) nF8 nG nO8
    · have hi : i = l.length := by omega
      subst hi
      refine .inl ⟨j2 rfl, ?_⟩
      rw [List.drop_length] at rem
      exact rem F2 H2 acc .refl R2' a2 hE2 nF2 nO2 (Nat.le_trans hdl jl)
section
variable {X : Cx} {elt iter tg c : Expr} {x y : Ex} {t : Tg} {it : It} {own : List (Str × Nat)} {scope : Scope} {pos spos : Pos}
/-- the tests of a clause -/
theorem pts_lit : PTs X [] (rdT X.K W Φ (.lit (.bool true))) := ⟨fun pins s σ H Q I ⟨G, z, F, ρ, R, h⟩ => pts_nil.run pins s σ H Q I (by
  simp only [evE, bnd_ok, toB] at h
  exact Evs.here (show Evs X.K G z W σ F (.ok true ρ : Res Bool) _ from h) R)⟩
theorem snd_lc {ifs : List Expr} (hc : X.calm = true) (hN : X.N.Nodup) (ok : BlkOk X.N X.env.scope scope own) (hso : ∀ j ∈ slots t, j ∈ own.map (·.2)) (hi : PI X tg iter (rdI X.K W Φ it))
    (hg : ∀ (s : Shared) (H : Hp) (C : Addr) (cl : List (Str × Addr)) (fp : List Addr), PG (X.blk s H scope (compEnvC scope cl C X.env) fp) tg (rdG X.K t))
    (ht : ∀ (s : Shared) (H : Hp) (C : Addr) (cl : List (Str × Addr)) (fp : List Addr), PTs (X.blk s H scope (compEnvC scope cl C X.env) fp) ifs (rdT X.K noW Φ y))
    (he : ∀ (s : Shared) (H : Hp) (C : Addr) (cl : List (Str × Addr)) (fp : List Addr), PE (X.blk s H scope (compEnvC scope cl C X.env) fp) elt (rdE X.K noW Φ x))
    (hs : ∀ v, foldedSetIterable iter X.env v = pure v) : PE X (.ListComp elt [⟨tg, iter, ifs, 0⟩] scope pos) (rdE X.K W Φ (.lc x t it y (own.map (·.2)))) :=
  PE.imp (pe_lc hc hN hi ok hg ht he hs) fun σ H Q h => rd_lc hso h
theorem snd_setLc {ifs : List Expr} {i : Nat} {n : Str} {pn : Pos} (hc : X.calm = true) (hN : X.N.Nodup) (hy : X.N[i]? = some n) (hyl : X.env.scope.names.lookup n = some .local) (hsw : swapsWith (.ListComp elt [⟨tg, iter, ifs, 0⟩] scope pos) (some (.Name n pn)) spos.line X.env = pure true)
    (ok : BlkOk X.N X.env.scope scope own) (hso : ∀ j ∈ slots t, j ∈ own.map (·.2)) (hi : PI X tg iter (rdI X.K W Φ it))
    (hg : ∀ (s : Shared) (H : Hp) (C : Addr) (cl : List (Str × Addr)) (fp : List Addr), PG (X.blk s H scope (compEnvC scope cl C X.env) fp) tg (rdG X.K t))
    (ht : ∀ (s : Shared) (H : Hp) (C : Addr) (cl : List (Str × Addr)) (fp : List Addr), PTs (X.blk s H scope (compEnvC scope cl C X.env) fp) ifs (rdT X.K noW Φ y))
    (he : ∀ (s : Shared) (H : Hp) (C : Addr) (cl : List (Str × Addr)) (fp : List Addr), PE (X.blk s H scope (compEnvC scope cl C X.env) fp) elt (rdE X.K noW Φ x))
    (hs : ∀ v, foldedSetIterable iter X.env v = pure v) : PS X (.Assign [.Name n pn] (.ListComp elt [⟨tg, iter, ifs, 0⟩] scope pos) spos) (tAsg (rdE X.K W Φ (.lc x t it y (own.map (·.2)))) (gName i)) :=
  PS.imp (ps_setLc hc hN hy hyl hsw hi ok hg ht he hs) fun D σ H h => rd_lc hso h
end
end Sn

namespace Sn
open PySem PySem.Spec L2
variable {K : PySem.W.Frag} {F F' H H' G : Hp} {z : Pz} {ρ ρ' : List Sl} {σ σ' : St} {W : Str → St → Hp → Prop} {Φ : Nat → List D → Out} {α β : Type}

/-- what stands behind a statement -/
def SPost (K : PySem.W.Frag) (G : Hp) (D : Ends) (f : Fl) (ρ' : List Sl) (σ' : St) (F' H' : Hp) : Prop := match f with
  | .nx => D.nx σ' H'
  | .bk => D.bk σ' H'
  | .ct => D.ct σ' H'
  | .rt r => ∀ v, ROk K G F' H' ρ' σ' r v → D.rt v H'
theorem rdS_eq {s : Sx} {D : Ends} : rdS K W Φ s D σ H ↔ ∃ G z F ρ, Rep K G z F ρ σ H ∧ EvS K G z W F (evS Φ s ρ) (SPost K G D) := Iff.rfl
/-- an expression ahead -/
theorem rs_any {a : Ex} {f : R → List Sl → Res β} {P : β → List Sl → St → Hp → Hp → Prop} {Q : VK} (R : Rep K G z F ρ σ H) (h : EvS K G z W F (bnd (evE Φ a ρ) f) P)
    (k : ∀ r ρ1 F1 H1 v, Sub F F1 → Rep K G z F1 ρ1 σ H1 → ROk K G F1 H1 ρ1 σ r v → EvS K G z W F1 (f r ρ1) P → Q v H1) : rdE K W Φ a σ H Q :=
  ⟨G, z, F, ρ, R, EvS.first h fun r ρ1 F1 H1 s1 R1 h1 v hv => k r ρ1 F1 H1 v s1 R1 hv h1⟩
theorem rs_frz {a : Ex} {f : D → List Sl → Res β} {P : β → List Sl → St → Hp → Hp → Prop} {Q : VK} (R : Rep K G z F ρ σ H) (h : EvS K G z W F (bnd (evE Φ a ρ) fun x ρ => bnd (frz x ρ) f) P)
    (k : ∀ d ρ1 F1 H1 v, Sub F F1 → Rep K G z F1 ρ1 σ H1 → At K F1 v d → EvS K G z W F1 (f d ρ1) P → Q v H1) : rdE K W Φ a σ H Q :=
  ⟨G, z, F, ρ, R, EvS.first h fun r ρ1 F1 H1 s1 R1 h1 v hv => by
    obtain ⟨d, ρ2, F2, s2, R2, o, h2⟩ := R1.frzS hv h1
    exact k d ρ2 F2 H1 v (s1.trans s2) R2 o h2⟩
theorem rs_test {a : Ex} {f : Bool → List Sl → Res β} {P : β → List Sl → St → Hp → Hp → Prop} {Q : Bool → Hp → Prop} (R : Rep K G z F ρ σ H) (h : EvS K G z W F (bnd (bnd (evE Φ a ρ) toB) f) P)
    (k : ∀ b ρ1 F1 H1, Sub F F1 → Rep K G z F1 ρ1 σ H1 → EvS K G z W F1 (f b ρ1) P → Q b H1) : rdT K W Φ a σ H Q :=
  ⟨G, z, F, ρ, R, EvS.first h fun b ρ1 F1 H1 s1 R1 h1 => k b ρ1 F1 H1 s1 R1 h1⟩
theorem bnd_test (r : Res R) (f : Bool → List Sl → Res β) : (bnd r fun x ρ => bnd (toB x ρ) f) = bnd (bnd r toB) f := (bnd_assoc r toB f).symm

section
variable {X : Cx} {a b c : Expr} {x y w : Ex} {pos pos' : Pos} {st : Stmt} {sts : List Stmt} {s t : Sx}
theorem sndS_of {u : TS} (h : PS X st u) (i : ∀ G z F ρ D σ H, Rep X.K G z F ρ σ H → EvS X.K G z W F (evS Φ s ρ) (SPost X.K G D) → u D σ H) : PS X st (rdS X.K W Φ s) :=
  PS.imp h fun D σ H ⟨G, z, F, ρ, R, q⟩ => i G z F ρ D σ H R q
/-- name = e, from its reading -/
theorem sndS_set0 {i : Nat} (h : PS X st (tAsg (rdE X.K W Φ x) (gName i))) : PS X st (rdS X.K W Φ (.set i x)) := by
  refine sndS_of h fun G z F ρ D σ H R h => ?_
  simp only [evS] at h
  refine rs_any R h fun r ρ1 F1 H1 v s1 R1 o1 h => ?_
  cases q : Sn.setR i r ρ1 with
  | no => rw [q] at h; exact h.elim
  | ex c ρ2 => exact (setR_ex q).elim
  | ok u ρ2 =>
    rw [q] at h
    exact EvS.here (show EvS X.K G z W F1 (.ok .nx ρ2 : Res Fl) _ from h) (R1.setR o1 q)
theorem sndS_set {i : Nat} {n : Str} (hN : X.N.Nodup) (hi : X.N[i]? = some n) (hx : Loc X.env.scope n) (hf : X.fn n = true ∨ X.env.scope.names.lookup n = some .local) (ha : PE X a (rdE X.K W Φ x)) (hs : swapsWith a (some (.Name n pos')) pos.line X.env = pure false) :
    PS X (.Assign [.Name n pos'] a pos) (rdS X.K W Φ (.set i x)) := sndS_set0 (ps_set hN hi hx ha hs hf)
theorem sndS_setT {tg : Expr} {t : Tg} (ha : PE X a (rdE X.K W Φ x)) (hg : PG X tg (rdG X.K t)) (hs : swapsWithSole [tg] a pos.line X.env = pure false) (hw : swappedStores [tg] a X.env = pure none) (h1 : (assignEach [tg] X.env).map (·.2) = [assign tg X.env]) :
    PS X (.Assign [tg] a pos) (rdS X.K W Φ (.setT t x)) := by
  refine sndS_of (ps_asg ha hg hs hw h1) fun G z F ρ D σ H R h => ?_
  simp only [evS] at h
  refine rs_frz R h fun d ρ1 F1 H1 v s1 R1 o1 h => ?_
  cases q : asg t d ρ1 with
  | no => rw [q] at h; exact h.elim
  | ex c ρ2 => exact (asg_ex q).elim
  | ok u ρ2 =>
    rw [q] at h
    exact ⟨G, z, F1, ρ1, d, ρ2, R1, o1, q, fun σ' _ _ R2 => EvS.here (show EvS X.K G z W F1 (.ok .nx ρ2 : Res Fl) _ from h) R2⟩
theorem sndS_ex (ha : PE X a (rdE X.K W Φ x)) (hs : swapsWith a none pos.line X.env = pure false) : PS X (.Expr a pos) (rdS X.K W Φ (.ex x)) := by
  refine sndS_of (ps_expr ha hs) fun G z F ρ D σ H R h => ?_
  simp only [evS] at h
  exact rs_any R h fun r ρ1 F1 H1 v s1 R1 o1 h => EvS.here h R1
theorem sndS_ret (ha : PE X a (rdE X.K W Φ x)) : PS X (.Return (some a) pos) (rdS X.K W Φ (.ret x)) := by
  refine sndS_of (ps_ret ha) fun G z F ρ D σ H R h => ?_
  simp only [evS] at h
  exact rs_any R h fun r ρ1 F1 H1 v s1 R1 o1 h => EvS.here h R1 v o1
theorem sndS_brk : PS X (.Break pos) (rdS X.K W Φ .brk) := by
  refine sndS_of ps_break fun G z F ρ D σ H R h => ?_
  simp only [evS] at h
  exact EvS.here h R
theorem sndS_cont : PS X (.Continue pos) (rdS X.K W Φ .cont) := by
  refine sndS_of ps_continue fun G z F ρ D σ H R h => ?_
  simp only [evS] at h
  exact EvS.here h R
theorem sndS_pass : PS X (.Pass pos) (rdS X.K W Φ .skip) := by
  refine sndS_of ps_pass fun G z F ρ D σ H R h => ?_
  simp only [evS] at h
  exact EvS.here h R
theorem sndSs_nil : PSs X [] (rdS X.K W Φ .skip) := by
  refine PSs.imp pss_nil fun D σ H ⟨G, z, F, ρ, R, h⟩ => ?_
  simp only [evS] at h
  exact EvS.here h R
theorem sndSs_one (h : PS X st (rdS X.K W Φ s)) : PSs X [st] (rdS X.K W Φ s) := pss_one h
theorem sndSs_cons (h1 : PS X st (rdS X.K W Φ s)) (h2 : PSs X sts (rdS X.K W Φ t)) : PSs X (st :: sts) (rdS X.K W Φ (.seq s t)) := by
  refine PSs.imp (pss_cons h1 h2) fun D σ H ⟨G, z, F, ρ, R, h⟩ => ⟨G, z, F, ρ, R, ?_⟩
  simp only [evS] at h
  refine EvS.seq h fun f ρ1 σ1 F1 H1 s1 R1 h1 => ?_
  cases f with
  | nx => exact ⟨G, z, F1, ρ1, R1, h1⟩
  | bk => exact EvS.here h1 R1
  | ct => exact EvS.here h1 R1
  | rt r => exact EvS.here h1 R1
theorem sndS_ite {as bs : List Stmt} (hc : PT X c (rdT X.K W Φ x)) (ha : PSs X as (rdS X.K W Φ s)) (hb : PSs X bs (rdS X.K W Φ t)) : PS X (.If c as bs pos) (rdS X.K W Φ (.ite x s t)) := by
  refine sndS_of (ps_if hc ha hb) fun G z F ρ D σ H R h => ?_
  simp only [evS, bnd_test] at h
  refine rs_test R h fun k ρ1 F1 H1 s1 R1 h => ?_
  cases k with
  | true => exact ⟨G, z, F1, ρ1, R1, h⟩
  | false => exact ⟨G, z, F1, ρ1, R1, h⟩
theorem sndS_whl (hp : PassesOwn (model X.prog X.w) X.A X.env X.xe) (hc : PT X c (rdT X.K W Φ x)) (hb : PSs X sts (rdS X.K W Φ s)) : PS X (.While c sts [] pos) (rdS X.K W Φ (.whl x s)) := by
  refine sndS_of (ps_while hp hc hb) fun G z F ρ D σ H R h => ?_
  simp only [evS] at h
  refine ⟨fun m σ H => ∃ F ρ, Rep X.K G z F ρ σ H ∧ EvS X.K G z W F (whlL (fun ρ => bnd (evE Φ x ρ) toB) (evS Φ s) m ρ) (SPost X.K G D), ⟨fuelN, F, ρ, R, h⟩, ?_⟩
  rintro m σ1 H1 ⟨F1, ρ1, R1, h1⟩
  cases m with
  | zero => exact h1.elim
  | succ m =>
    simp only [whlL] at h1
    refine rs_test R1 h1 fun k ρ2 F2 H2 s2 R2 h2 => ?_
    cases k with
    | false =>
      simp only [Bool.false_eq_true, if_false] at h2 ⊢
      exact EvS.here h2 R2
    | true =>
      simp only [if_true] at h2 ⊢
      refine ⟨fun σ' H' => ∃ F ρ, Rep X.K G z F ρ σ' H' ∧ EvS X.K G z W F (whlL (fun ρ => bnd (evE Φ x ρ) toB) (evS Φ s) m ρ) (SPost X.K G D), fun σ' H' q => ⟨m, Nat.lt_succ_self m, q⟩, G, z, F2, ρ2, R2, EvS.seq h2 fun f ρ3 σ3 F3 H3 s3 R3 h3 => ?_⟩
      cases f with
      | nx => exact ⟨F3, ρ3, R3, h3⟩
      | ct => exact ⟨F3, ρ3, R3, h3⟩
      | bk => exact EvS.here h3 R3
      | rt r => exact EvS.here h3 R3
theorem sndS_for {tg iter : Expr} {it : It} {t : Tg} (hp : PassesOwn (model X.prog X.w) X.A X.env X.xe) (hc : X.calm = true) (hi : PI X tg iter (rdI X.K W Φ it)) (hg : PG X tg (rdG X.K t)) (hb : PSs X sts (rdS X.K W Φ s)) (hs : ∀ v, foldedSetIterable iter X.env v = pure v) :
    PS X (.For tg iter sts [] pos) (rdS X.K W Φ (.for_ t it s)) := by
  refine sndS_of (ps_for hp hc hi hg hb hs) fun G z F ρ D σ H R h => ?_
  simp only [evS] at h
  refine ⟨G, z, F, ρ, R, EvS.first h fun l ρ1 F1 H1 s1 R1 h1 J jok => ?_⟩
  obtain ⟨jl, jj⟩ := jok
  refine ⟨fun i m σ H => ∃ F ρ, Sub F1 F ∧ Rep X.K G z F ρ σ H ∧ i ≤ l.length ∧ m = l.length - i ∧ EvS X.K G z W F (forL t (evS Φ s) (l.drop i) ρ) (SPost X.K G D), ⟨l.length, F1, ρ1, .refl, R1, Nat.zero_le _, rfl, h1⟩, ?_⟩
  rintro i m σ2 H2 ⟨F2, ρ2, s2, R2, hil, rfl, h2⟩
  obtain ⟨j1, j2⟩ := jj i F2 H2 s2 R2.fh R2.hl
  by_cases hlt : i < l.length
  · obtain ⟨go, yl⟩ := j1 _ (List.getElem?_eq_getElem hlt)
    rw [List.drop_eq_getElem_cons hlt] at h2
    simp only [forL] at h2
    refine .inr ⟨go, fun σ H => ∃ F ρ, Sub F1 F ∧ Rep X.K G z F ρ σ H ∧ EvS X.K G z W F (forL t (evS Φ s) (l.drop (i + 1)) ρ) (SPost X.K G D), ?_, fun v H3 hy => ?_⟩
    · rintro σ' H' ⟨F5, ρ5, q1, q2, q3⟩
      exact ⟨l.length - (i + 1), by omega, F5, ρ5, q1, q2, hlt, rfl, q3⟩
    · obtain ⟨F3, st, ax⟩ := yl v H3 hy
      have R3 := R2.stp st
      cases q : asg t l[i] ρ2 with
      | no => rw [q] at h2; exact h2.elim
      | ex c ρ3 => exact (asg_ex q).elim
      | ok u ρ3 =>
        rw [q] at h2
        simp only [bnd_ok] at h2
        refine ⟨G, z, F3, ρ2, l[i], ρ3, R3, ax, q, fun σ4 _ _ R4 => ⟨G, z, F3, ρ3, R4, EvS.seq (h2.mono st.ff) fun f ρ5 σ5 F5 H5 s5 R5 h5 => ?_⟩⟩
        cases f with
        | nx => exact ⟨F5, ρ5, s2.trans (st.ff.trans s5), R5, h5⟩
        | ct => exact ⟨F5, ρ5, s2.trans (st.ff.trans s5), R5, h5⟩
        | bk => exact EvS.here h5 R5
        | rt r => exact EvS.here h5 R5
  · have hi : i = l.length := by omega
    subst hi
    rw [List.drop_length] at h2
    exact .inl ⟨j2 rfl, EvS.here (show EvS X.K G z W F2 (.ok .nx ρ2 : Res Fl) _ from h2) R2⟩
theorem sndS_raise {W0 : WX} {e : Expr} {n : Str} {C : Addr} (hc : X.calm = true) (tk : L2N.Takes X W0) (hC : X.mg n = some (.ref C)) (he : L2N.PMk X e (fun _ H Q => Q (.ref C) none H)) : PS X (.Raise (some e) none pos) (rdS X.K (wOf X W0) Φ (.raise n)) := by
  refine sndS_of (L2N.ps_raise hc tk he) fun G z F ρ D σ H R h => ?_
  simp only [evS] at h
  exact h F σ H .refl R C hC

def rPut (K : PySem.W.Frag) : TSet := fun o k v H Q => ∃ G z F ρ σ i f c dk d c', Rep K G z F ρ σ H ∧ ρ[i]? = some (.ow f c) ∧ σ[i]? = some (some o) ∧ At K F k dk ∧ At K F v d ∧ putC c dk d = some c' ∧ (∀ H', Rep K G z F (ρ.set i (.ow f c')) σ H' → Q H')
theorem set_all (hu : X.A.units + 1 < cLine) : PSet X (rPut X.K) := by
  intro pins s σ H o k v ov kv u Q I ro rk rv h
  obtain ⟨G, z, F, ρ, σ', i, f, c, dk, d, c', P, e, eo, hk, hv, hp, q⟩ := h
  obtain ⟨a, h1, h2, h3, h4, h5⟩ := P.ow e
  rw [eo] at h1; cases h1
  cases c with
  | l xs =>
    obtain ⟨vs, g1, g2, g3⟩ := h5
    simp only [putC] at hp
    cases dk with
    | int j =>
      cases hk
      simp only [Option.map_eq_some_iff] at hp
      obtain ⟨m, e1, rfl⟩ := hp
      refine set_list pins s σ H _ _ _ ov kv u Q I ro rk rv ⟨a, vs, j, m, rfl, rfl, g1, by rw [g2.length]; exact e1, q _ (P.put e eo ⟨_, upd_same, g2.set m hv, by rw [List.length_set]; exact g3⟩)⟩
    | _ => cases hp
  | t kvs =>
    obtain ⟨ws, g1, g2⟩ := h5
    simp only [putC] at hp
    split at hp
    · rename_i hl
      simp only [Option.map_eq_some_iff] at hp
      obtain ⟨ks, e1, rfl⟩ := hp
      cases dk with
      | tuple ds =>
        cases hk with
        | tup q1 q2 =>
          have e2 := keysI_V (show keysI ds = some ks from e1) q2
          subst e2
          exact set_dict hu pins s σ H _ _ _ ov kv u Q I ro rk rv ⟨a, _, rfl, .t g1 (P.fh _ _ q1) (by rw [g2.length]; exact hl), q _ (P.put e eo ⟨_, upd_same, g2.put hv⟩)⟩
      | _ => simp [keyL] at e1
    · cases hp
  | k kvs =>
    obtain ⟨ws, g1, g2⟩ := h5
    simp only [putC] at hp
    split at hp
    · rename_i hl
      simp only [Option.map_eq_some_iff] at hp
      obtain ⟨ks, e1, rfl⟩ := hp
      have e2 := keyI_V e1 hk
      subst e2
      exact set_dict hu pins s σ H _ _ _ ov kv u Q I ro rk rv ⟨a, _, rfl, .k g1 (by rw [g2.length]; exact hl), q _ (P.put e eo ⟨_, upd_same, g2.put hv⟩)⟩
    · cases hp
theorem sndS_put {i : Nat} {n : Str} {pn : Pos} (hu : X.A.units + 1 < cLine) (hN : X.N[i]? = some n) (hv : Vis X.env.scope n) (hd : (n == ("__debug__" : Str)) = false) (hcd : (n == ("__classdict__" : Str)) = false)
    (hk : PE X b (rdE X.K W Φ y)) (ha : PE X a (rdE X.K W Φ x)) (hns : ∀ lo hi s p, b ≠ .Slice lo hi s p) (hs : swapsWithSole [.Subscript (.Name n pn) b pos'] a pos.line X.env = pure false) :
    PS X (.Assign [.Subscript (.Name n pn) b pos'] a pos) (rdS X.K W Φ (.put i y x)) := by
  have has : ∀ v, assign (.Subscript (.Name n pn) b pos') X.env v = (do
      let ov ← holding [v] (eval (.Name n pn) X.env)
      let iv ← holding [v, ov] (eval b X.env)
      standAt pos'
      holding [v, ov, iv] (setItem ov iv v)
      release [v, ov, iv] []) := by
    intro v
    cases b <;> first | rfl | exact absurd rfl (hns _ _ _ _)
  refine sndS_of (ps_asg ha (pg_sub (pe_var hN hv hd hcd) hk (set_all hu) has) hs (by rfl) (by rfl)) fun G z F ρ D σ H R h => ?_
  simp only [evS] at h
  refine rs_frz R h fun d ρ1 F1 H1 v s1 R1 o1 h => ?_
  split at h
  · rename_i f c e
    obtain ⟨q, eq, _⟩ := R1.ow e
    refine ⟨_, eq, ?_⟩
    refine rs_frz R1 h fun dk ρ2 F2 H2 k s2 R2 o2 h => ?_
    split at h
    · rename_i f' c' e'
      obtain ⟨c2, e2, h⟩ := h.opt
      obtain ⟨q', eq', _⟩ := R2.ow e'
      rw [eq] at eq'; cases eq'
      exact ⟨G, z, F2, ρ2, σ, i, f', c', dk, d, c2, R2, e', eq, o2, At.mono s2 o1, e2, fun H' R3 => EvS.here h R3⟩
    · exact h.elim
  · exact h.elim
end
end Sn

namespace Sn
open PySem PySem.Spec L2
open PyProof.Rows (seqObj size_push')
variable {K : PySem.W.Frag} {F F' H H' G : Hp} {z : Pz} {ρ ρ' : List Sl} {σ σ' : St} {W : Str → St → Hp → Prop} {Φ : Nat → List D → Out} {α β : Type}

theorem reads_keys {h : Heap} : ∀ {ks : List Key} {us : List Value}, Vals (ks.map kV) us → ReadsAll h us (ks.map dKey) []
  | [], us, r => by cases r; exact .nil
  | k :: ks, us, r => by
    cases r with
    | cons r1 r2 =>
      have ih := reads_keys (h := h) r2
      cases k with
      | inl i => obtain ⟨t, rfl⟩ := r1; exact .cons (as := []) (.int i t) ih
      | inr x => obtain ⟨t, rfl⟩ := r1; exact .cons (as := []) (.str x t) ih
theorem at_keys : ∀ ks : List Key, AtAll K F (ks.map kV) (ks.map dKey)
  | [] => .nil
  | .inl i :: ks => .cons (.int i) (at_keys ks)
  | .inr x :: ks => .cons (.str x) (at_keys ks)
def keyT (k : List Key) : D := .tuple (k.map dKey)
def rSrtT (K : PySem.W.Frag) : List V → Hp → VK → Prop := fun vs H Q => ∃ F a ws, vs = [.ref a] ∧ Sub F H ∧ HLen F ∧ H a = some (.dT ws) ∧ alikeB (ws.map fun p => keyT p.1) = true ∧ sortB (ws.map fun p => keyT p.1) = true ∧
  PyData.depth (.list (ws.map fun p => keyT p.1)) ≤ 60 ∧ ∀ F' p us, Absb F H F' → H p = none → AtAll K F' us (sortD (ws.map fun p => keyT p.1)) → us.length ≤ sizeLine → Q (.ref p) (upd H p (.lst us))
theorem cr_srtT {X : Cx} (hc : X.calm = true) (hu : X.A.units + 65 < cLine) : CallR X (.builtin "sorted") (rSrtT X.K) := by
  intro pins s σ H xs us Q I r h
  obtain ⟨F, a, ws, rfl, sb, hl, hd, hal, hso, hde, q⟩ := h
  rw [Vals.ref1 r]
  obtain ⟨zz, lo, ks, pr, o, es, ep, ho, hx, hdt, he, hn⟩ := (show ObjOk X.prog X.w H s.heap a (.dT ws) from I.hok a _ hd)
  have l1 : es.size = ks.length := size_of_entries he
  have l2 : ws.length = ks.length := Paired.length pr
  refine PySem.Calls.call_function_entry PyProof.Rows.kind_sorted PyProof.Rows.plain_sorted PyProof.Rows.entry_sorted (PyProof.Rows.args_sorted1 _) ?_
  unfold Builtin.«sorted»
  refine wpAny_bind (m := checkCount "sorted" 1 1 _) (wpAny_pure ?_)
  refine wpAny_bind (PySem.W.kdu_collect (A := X.A.in1) (kdl_raw lo hx hdt) (I.ok.hd hc) ho (by omega) fun h' tk acc hk hacc => ?_)
  have ea : acc.toList = ks.map fun x => Value.ref x.2.1 := by
    have hlen : acc.toList.length = ks.length := by rw [Array.length_toList, hacc.1]; exact l1
    apply List.ext_getElem?
    intro j
    rw [List.getElem?_map]
    cases hj : acc.toList[j]? with
    | none =>
      have h1 := List.getElem?_eq_none_iff.mp hj
      rw [List.getElem?_eq_none (by omega)]; rfl
    | some v =>
      obtain ⟨en, hen, hv⟩ := hacc.2 j v (by rw [← Array.getElem?_toList]; exact hj)
      have qe := entry_at he j
      rw [hen] at qe
      cases hb : ks[j]? with
      | none => rw [hb] at qe; cases qe
      | some b =>
        rw [hb] at qe
        have e2 : en = entryOfKey (tupleKind (mixKind X.prog X.w)) b := Option.some.inj qe
        rw [hv, e2]; rfl
  -- the key tuples are data from now on
  let F' : Hp := fun b => if b ∈ ks.map (fun x => x.2.1) then H b else F b
  have key : ∀ x ∈ ks, H x.2.1 = some (.tup (x.1.map kV)) := by
    intro x hx
    have g : ∀ {l : List (List Key × V)} {m : List (List Key × Addr × Value)}, Paired (fun (p : List Key × V) (q : List Key × Addr × Value) => p.1 = q.1 ∧ H q.2.1 = some (.tup (p.1.map kV)) ∧ RelV p.2 q.2.2) l m → ∀ x ∈ m, H x.2.1 = some (.tup (x.1.map kV)) := by
      intro l m h
      induction h with
      | nil => intro x hx; cases hx
      | cons h1 h2 ih =>
        intro x hx
        rcases List.mem_cons.mp hx with rfl | hx
        · rw [← h1.1]; exact h1.2.1
        · exact ih x hx
    exact g pr x hx
  have keq : ws.map (fun p => keyT p.1) = ks.map fun x => keyT x.1 := by
    have g : ∀ {l : List (List Key × V)} {m : List (List Key × Addr × Value)}, Paired (fun (p : List Key × V) (q : List Key × Addr × Value) => p.1 = q.1 ∧ H q.2.1 = some (.tup (p.1.map kV)) ∧ RelV p.2 q.2.2) l m → l.map (fun p => keyT p.1) = m.map fun x => keyT x.1 := by
      intro l m h
      induction h with
      | nil => rfl
      | cons h1 h2 ih => simp only [List.map_cons, ih, h1.1]
    exact g pr
  have hF' : ∀ x ∈ ks, F' x.2.1 = some (.tup (x.1.map kV)) := fun x hx => by
    show (if x.2.1 ∈ ks.map (fun x => x.2.1) then H x.2.1 else F x.2.1) = _
    rw [if_pos (List.mem_map.mpr ⟨x, hx, rfl⟩)]; exact key x hx
  have sF' : Sub F F' := fun b u e => by
    show (if b ∈ ks.map (fun x => x.2.1) then H b else F b) = _
    split
    · exact sb _ _ e
    · exact e
  have sF'H : Sub F' H := fun b u e => by
    have e : (if b ∈ ks.map (fun x => x.2.1) then H b else F b) = some u := e
    split at e
    · exact e
    · exact sb _ _ e
  have ab : Absb F H F' := by
    refine ⟨sF', sF'H, fun b xs hr => ?_, fun b e => ?_⟩
    · rcases hr with (hr | ⟨ob, hr⟩) | (hr | ⟨ob, hr⟩)
      · exact (I.hok b _ (sF'H _ _ hr)).1
      · exact (I.hok b _ (sF'H _ _ hr)).2.1
      · exact (I.hok b _ (sF'H _ _ hr)).1
      · exact (I.hok b _ (sF'H _ _ hr)).2.1
    · by_cases c : b ∈ ks.map (fun x => x.2.1)
      · obtain ⟨x, hx, rfl⟩ := List.mem_map.mp c
        exact .inr ⟨_, key x hx⟩
      · have : F' b = F b := if_neg c
        rw [this] at e
        exact .inl e
  have each : PySem.W.EachIs (ItAt X.K F') (ks.map fun x => Value.ref x.2.1) (ks.map fun x => keyT x.1) := by
    have g : ∀ l : List (List Key × Addr × Value), (∀ x ∈ l, x ∈ ks) → PySem.W.EachIs (ItAt X.K F') (l.map fun x => Value.ref x.2.1) (l.map fun x => keyT x.1) := by
      intro l
      induction l with
      | nil => intro _; exact .nil
      | cons x l ih => intro hm; exact .cons ⟨.ref x.2.1, .tup (hF' x (hm x (by simp))) (at_keys _), rfl⟩ (ih fun y hy => hm y (by simp [hy]))
    exact g ks fun _ h => h
  have I1 : Inv X pins σ H { s with heap := h', toks := tk } := I.kept hk
  have lacc : acc.toList.length = ks.length := by rw [ea, List.length_map]
  refine wpAny_bind (wpAny_newList ?_ (by rw [lacc]; omega))
  have hoL : (h'.push (seqObj "list" acc.toList.toArray 0)).get? h'.objs.size = some (seqObj "list" acc.toList.toArray 0) := Heap.get?_push_size _ rfl
  show wpAny _ _ _ _ _ { s with heap := h'.push (seqObj "list" acc.toList.toArray 0), toks := tk }
  have I2 : Inv X pins σ H { s with heap := h'.push (seqObj "list" acc.toList.toArray 0), toks := tk } := I1.kept (t' := tk) fun b o e => Heap.get?_push_of_some _ e
  have reads : PySem.W.EachIs (fun v b => ∃ as, PySem.Reads (h'.push (seqObj "list" acc.toList.toArray 0)) v (id b) as ∧ h'.objs.size ∉ as) acc.toList (ks.map fun x => keyT x.1) := by
    rw [ea]
    have g : ∀ l : List (List Key × Addr × Value), (∀ x ∈ l, x ∈ ks) → PySem.W.EachIs (fun v b => ∃ as, PySem.Reads (h'.push (seqObj "list" (ks.map fun x => Value.ref x.2.1).toArray 0)) v (id b) as ∧ h'.objs.size ∉ as) (l.map fun x => Value.ref x.2.1) (l.map fun x => keyT x.1) := by
      intro l
      induction l with
      | nil => intro _; exact .nil
      | cons x l ih =>
        intro hm
        refine .cons ⟨[], ?_, by simp⟩ (ih fun y hy => hm y (by simp [hy]))
        rw [← ea]
        obtain ⟨_, its, rv, ob, g1, g2, n, g3⟩ := (show ObjOk X.prog X.w H (h'.push (seqObj "list" acc.toList.toArray 0)) x.2.1 (.tup (x.1.map kV)) from I2.hok _ _ (key x (hm x (by simp))))
        exact .tuple g1 g2 g3 (by simpa using reads_keys rv)
    exact g ks fun _ h => h
  have hAl : PySem.W.AllAlike ((ks.map fun x => keyT x.1).map id) := by
    rw [List.map_id, ← keq]
    unfold alikeB at hal
    simp only [List.all_eq_true] at hal
    exact hal
  have hSo : Fs.SortOk ((ks.map fun x => keyT x.1).map id) := by rw [List.map_id, ← keq]; exact sortB_ok hso
  have lks : (ks.map fun x => keyT x.1).length ≤ sizeLine := by rw [List.length_map]; omega
  have e1 : PySem.W.EachIs (ItAt X.K F') acc.toList (ks.map fun x => keyT x.1) := by rw [ea]; exact each
  refine wpAny_bind (wpAny_holding (Fs.list_sort_any (s := { s with heap := h'.push (seqObj "list" acc.toList.toArray 0), toks := tk }) (R := ItAt X.K F') (enc := id) (vs := acc.toList) (bs := ks.map fun x => keyT x.1) hoL e1 reads hAl hSo lks (fun b hb => ?_) fun out hlo eo => ?_))
  · have h1 := depth_mem hb
    rw [keq] at hde
    simp only [PyData.depth] at hde
    show X.A.in1.units + 1 + (id b).depth < cLine
    have h2 : X.A.in1.units ≤ X.A.units + 1 := by simp [Around.in1, Around.units]
    simp only [id]
    omega
  · obtain ⟨vs', r2, a2⟩ := of_each eo
    obtain ⟨e', he'⟩ := PyProof.Rows.sortedHeap_at (vs := acc.toList) (out := out.toArray) hoL
    have hz : vs'.length ≤ sizeLine := by rw [a2.length]; unfold PySem.W.dataLe; rw [List.length_mergeSort]; exact lks
    have a3 : AtAll X.K F' vs' (sortD (ws.map fun p => keyT p.1)) := by rw [keq]; exact a2
    refine wpAny_pure ⟨_, rfl, .ref h'.objs.size, upd H h'.objs.size (.lst vs'), I1.laid (t' := tk) (fun b u e => ?_) (Nat.le_refl _)
      (show ObjOk X.prog X.w _ _ _ (.lst vs') from ⟨hz, out, e', r2, he'⟩), rfl, q F' _ vs' ab (I1.hok.fresh (Nat.le_refl _)) a3 hz⟩
    have hb : b < h'.objs.size := Heap.lt_size e
    rw [PyProof.Rows.sortedHeap_old (Nat.ne_of_lt hb) (by rw [PyProof.Rows.size_push']; exact Nat.lt_succ_of_lt hb)]
    exact Heap.get?_push_of_some _ e
end Sn

namespace Sn
open PySem PySem.Spec L2
variable {K : PySem.W.Frag} {F F' H H' G : Hp} {z : Pz} {ρ ρ' : List Sl} {σ σ' : St} {W : Str → St → Hp → Prop} {Φ : Nat → List D → Out} {α β : Type}
theorem CallR.or {X : Cx} {f : Value} {r r' : List V → Hp → VK → Prop} (h : CallR X f r) (h' : CallR X f r') : CallR X f (fun vs H Q => r vs H Q ∨ r' vs H Q) := by
  intro pins s σ H xs us Q I rr q
  rcases q with q | q
  · exact h pins s σ H xs us Q I rr q
  · exact h' pins s σ H xs us Q I rr q
theorem KD.keyT : ∀ {kvs : List (List Key × D)} {ws : List (List Key × V)}, KD K F kvs ws → (ws.map fun p => keyT p.1) = kvs.map fun p => .tuple (p.1.map dKey)
  | [], [], _ => rfl
  | (k, d) :: r, (k', v) :: t, h => by
    obtain ⟨rfl, _, h2⟩ := h
    simp only [List.map_cons, KD.keyT h2]; rfl
  | [], _ :: _, h => h.elim
  | _ :: _, [], h => h.elim
section
variable {X : Cx} {n m : Str} {p p2 pos apos : Pos} {e e1 e2 : Expr} {es : List Expr} {x y w : Ex} {xs : Exs}
theorem snd_sorted (hc : X.calm = true) (hu : X.A.units + 65 < cLine) (hg : Gl X n) (hm : X.mg n = none) (hb : bootBuiltins n = some (.builtin "sorted")) (hn : n ≠ "__name__") (hd : (n == ("__debug__" : Str)) = false) (h1 : ∀ v p, e ≠ .Starred v p) (ha : PE X e (rdE X.K W Φ x)) :
    PE X (.Call (.Name n p) [e] [] pos) (rdE X.K W Φ (.bi .sorted (.cons x .nil))) := by
  refine PE.imp (pe_callB (CallR.or (bi_sorted hu) (cr_srtT hc hu)) hg hm hb (pa_cons ha pa_nil (star_of h1)) hn hd (star_of h1) rfl) fun σ H Q ⟨G, z, F, ρ, R, h⟩ => ?_
  simp only [evE] at h
  refine rd_opd R h fun r ρ1 F1 H1 v s1 R1 o1 h => ?_
  split at h
  · rename_i kvs hk
    obtain ⟨r', e2, h⟩ := h.optE
    cases r with
    | v d => simp [vwC] at hk
    | nw c => exact o1.elim
    | sl i =>
      have o1 : σ[i]? = some (some v) := o1
      simp only [vwC] at hk
      split at hk
      · rename_i f c q
        cases hk
        obtain ⟨a, g1, _, _, _, ws, g5, g6⟩ := R1.ow q
        rw [o1] at g1; cases g1
        unfold biD at e2
        dsimp only at e2
        split at e2
        · rename_i hcond
          cases e2
          simp only [Bool.and_eq_true, decide_eq_true_eq] at hcond
          rw [← g6.keyT] at hcond h
          refine .inr ⟨F1, a, ws, rfl, R1.fh, R1.hl, g5, hcond.1, hcond.2.1, hcond.2.2, fun F' p us ab np au lu => ?_⟩
          have R2 := R1.absb ab
          have st : Stp F' H1 F' (upd H1 p (.lst us)) := .new R2.fh R2.hl np
          exact h F' _ ab.1 (R2.stp st) _ (R2.rnw st (r := .nw (.l _)) ⟨p, rfl, np, R2.fh.none np, us, upd_same, au, by rw [← au.length]; exact lu⟩)
        · cases e2
      · cases hk
  · exact h.elim
  · obtain ⟨dx, e1, h⟩ := h.opt
    obtain ⟨r', e2, h⟩ := h.optE
    exact .inl ⟨F1, [dx], r', R1.fh, R1.hl, .cons (R1.ovw o1 e1) .nil, e2, fun F' H' u S n => h F' H' S.ff (R1.stp S) u (R1.rnw S n)⟩
theorem snd_dnew {t : Bool} : PE X (.Dict [] [] pos) (rdE X.K W Φ (.dnew t)) := by
  cases t with
  | true =>
    refine PE.imp pe_dnewT fun σ H Q ⟨G, z, F, ρ, R, h⟩ d nd => ?_
    simp only [evE] at h
    have st : Stp F H F (upd H d (.dT [])) := .new R.fh R.hl nd
    exact h F _ .refl (R.stp st) _ (R.rnw st (r := .nw (.t [])) ⟨d, rfl, nd, R.fh.none nd, [], upd_same, trivial⟩)
  | false =>
    refine PE.imp pe_dnewK fun σ H Q ⟨G, z, F, ρ, R, h⟩ d nd => ?_
    simp only [evE] at h
    have st : Stp F H F (upd H d (.dK [])) := .new R.fh R.hl nd
    exact h F _ .refl (R.stp st) _ (R.rnw st (r := .nw (.k [])) ⟨d, rfl, nd, R.fh.none nd, [], upd_same, trivial⟩)
theorem at_rng (a b : Int) : AtAll K F (rgV a b) (rngD a b) := by
  unfold rgV rngD
  generalize List.range (b - a).toNat = l
  induction l with
  | nil => exact .nil
  | cons i l ih => exact .cons (.int _) ih
theorem rd_rng {F1 F2 : Hp} {W : Str → St → Hp → Prop} {Q : Int → Int → Hp → Prop} {f : Int → Int → Res R} {P : R → List Sl → Hp → Hp → Prop} (R : Rep K G z F ρ σ H) (h : Evs K G z W σ F (bnd (evE Φ x ρ) fun u ρ => bnd (evE Φ y ρ) fun v ρ => match u, v with
    | .v (.int i), .v (.int j) => if rngOk i j then .ok (.nw (.l (rngD i j))) ρ else .no
    | _, _ => .no) P) : True := trivial
theorem rngOk_ok {i j : Int} (h : rngOk i j = true) : RgOk i j := by
  unfold rngOk at h
  simp only [Bool.and_eq_true, decide_eq_true_eq] at h
  exact ⟨h.1, h.2.1, h.2.2.1, h.2.2.2.1, h.2.2.2.2⟩
theorem rngOk_len {i j : Int} (h : rngOk i j = true) : (rngD i j).length ≤ sizeLine := by
  rw [rngD_len]
  exact Nat.le_trans (rngOk_ok h).2.2.2.2 (by decide)
theorem snd_listRg2 (hc : X.calm = true) (hgl : Gl X "list") (hml : X.mg "list" = none) (hgr : Gl X "range") (hmr : X.mg "range" = none) (h1 : ∀ v p, e1 ≠ .Starred v p) (h2 : ∀ v p, e2 ≠ .Starred v p) (ha : PE X e1 (rdE X.K W Φ x)) (hb : PE X e2 (rdE X.K W Φ y)) :
    PE X (.Call (.Name "list" p) [.Call (.Name "range" p2) [e1, e2] [] apos] [] pos) (rdE X.K W Φ (.listRg x y)) := by
  refine PE.imp (pe_listRg hc hgl hml (prg_2 hgr hmr ha hb (star_of h1) (star_of h2) (noStars (by simpa using h2) _ _))) fun σ H Q ⟨G, z, F, ρ, R, h⟩ => ?_
  simp only [evE] at h
  refine rd_any R h fun r ρ1 F1 H1 v s1 R1 o1 h' => rd_any R1 h' fun t ρ2 F2 H2 w s2 R2 o2 hh => ?_
  split at hh
  · rename_i i j
    split at hh
    · rename_i ok
      cases (show At X.K F1 v (.int i) from o1)
      cases (show At X.K F2 w (.int j) from o2)
      refine ⟨i, j, rfl, rfl, rngOk_ok ok, fun q nq => ?_⟩
      have st : Stp F2 H2 F2 (upd H2 q (.lst (rgV i j))) := .new R2.fh R2.hl nq
      exact hh F2 _ .refl (R2.stp st) _ (R2.rnw st (r := .nw (.l _)) ⟨q, rfl, nq, R2.fh.none nq, _, upd_same, at_rng i j, rngOk_len ok⟩)
    · exact hh.elim
  · exact hh.elim
theorem snd_listRg1 (hc : X.calm = true) (hgl : Gl X "list") (hml : X.mg "list" = none) (hgr : Gl X "range") (hmr : X.mg "range" = none) (h2 : ∀ v p, e2 ≠ .Starred v p) (hb : PE X e2 (rdE X.K W Φ y)) :
    PE X (.Call (.Name "list" p) [.Call (.Name "range" p2) [e2] [] apos] [] pos) (rdE X.K W Φ (.listRg (.lit (.int 0)) y)) := by
  refine PE.imp (pe_listRg hc hgl hml (prg_1 hgr hmr hb (star_of h2)) (by rfl)) fun σ H Q ⟨G, z, F, ρ, R, h⟩ => ?_
  simp only [evE, bnd_ok] at h
  refine rd_any R h fun t ρ2 F2 H2 w s2 R2 o2 hh => ?_
  split at hh
  · rename_i i j e
    split at hh
    · rename_i ok
      cases e
      cases (show At X.K F2 w (.int j) from o2)
      refine ⟨j, rfl, rngOk_ok ok, fun q nq => ?_⟩
      have st : Stp F2 H2 F2 (upd H2 q (.lst (rgV 0 j))) := .new R2.fh R2.hl nq
      exact hh F2 _ .refl (R2.stp st) _ (R2.rnw st (r := .nw (.l _)) ⟨q, rfl, nq, R2.fh.none nq, _, upd_same, at_rng 0 j, rngOk_len ok⟩)
    · exact hh.elim
  · exact hh.elim
theorem snd_tupRg2 (hc : X.calm = true) (hgl : Gl X "tuple") (hml : X.mg "tuple" = none) (hgr : Gl X "range") (hmr : X.mg "range" = none) (h1 : ∀ v p, e1 ≠ .Starred v p) (h2 : ∀ v p, e2 ≠ .Starred v p) (ha : PE X e1 (rdE X.K W Φ x)) (hb : PE X e2 (rdE X.K W Φ y)) :
    PE X (.Call (.Name "tuple" p) [.Call (.Name "range" p2) [e1, e2] [] apos] [] pos) (rdE X.K W Φ (.tupRg x y)) := by
  refine PE.imp (pe_tupRg hc hgl hml (prg_2 hgr hmr ha hb (star_of h1) (star_of h2) (noStars (by simpa using h2) _ _))) fun σ H Q ⟨G, z, F, ρ, R, h⟩ => ?_
  simp only [evE] at h
  refine rd_any R h fun r ρ1 F1 H1 v s1 R1 o1 h' => rd_any R1 h' fun t ρ2 F2 H2 w s2 R2 o2 hh => ?_
  split at hh
  · rename_i i j
    split at hh
    · rename_i ok
      cases (show At X.K F1 v (.int i) from o1)
      cases (show At X.K F2 w (.int j) from o2)
      refine ⟨i, j, rfl, rfl, rngOk_ok ok, fun q nq => ?_⟩
      have st : Stp F2 H2 (upd F2 q (.tup (rgV i j))) (upd H2 q (.tup (rgV i j))) := .tup R2.fh R2.hl nq (by rw [(at_rng (K := X.K) (F := F2) i j).length]; exact rngOk_len ok)
      exact hh _ _ st.ff (R2.stp st) _ (.tup upd_same (at_rng i j))
    · exact hh.elim
  · exact hh.elim
theorem snd_tupRg1 (hc : X.calm = true) (hgl : Gl X "tuple") (hml : X.mg "tuple" = none) (hgr : Gl X "range") (hmr : X.mg "range" = none) (h2 : ∀ v p, e2 ≠ .Starred v p) (hb : PE X e2 (rdE X.K W Φ y)) :
    PE X (.Call (.Name "tuple" p) [.Call (.Name "range" p2) [e2] [] apos] [] pos) (rdE X.K W Φ (.tupRg (.lit (.int 0)) y)) := by
  refine PE.imp (pe_tupRg hc hgl hml (prg_1 hgr hmr hb (star_of h2)) (by rfl)) fun σ H Q ⟨G, z, F, ρ, R, h⟩ => ?_
  simp only [evE, bnd_ok] at h
  refine rd_any R h fun t ρ2 F2 H2 w s2 R2 o2 hh => ?_
  split at hh
  · rename_i i j e
    split at hh
    · rename_i ok
      cases e
      cases (show At X.K F2 w (.int j) from o2)
      refine ⟨j, rfl, rngOk_ok ok, fun q nq => ?_⟩
      have st : Stp F2 H2 (upd F2 q (.tup (rgV 0 j))) (upd H2 q (.tup (rgV 0 j))) := .tup R2.fh R2.hl nq (by rw [(at_rng (K := X.K) (F := F2) 0 j).length]; exact rngOk_len ok)
      exact hh _ _ st.ff (R2.stp st) _ (.tup upd_same (at_rng 0 j))
    · exact hh.elim
  · exact hh.elim
theorem fewM {es : List Expr} (h : ∀ e ∈ es, ∀ v p, e ≠ .Starred v p) (hl : es.length < 30) (env : PySem.Env) (cpos : Pos) : ((backTo cpos (starEach es env)).all (fun x => !x.1) && (backToKw cpos (keywordEach [] env)).all (fun x => x.1.isSome)
      && decide (es.length + ([] : List Keyword).length + (if ([] : List Keyword).isEmpty then 0 else 1) < 30)) = true := by
  have a : (backTo cpos (starEach es env)).all (fun x => !x.1) = true := by
    have q := noStars h env cpos
    rw [List.any_eq_false] at q
    rw [List.all_eq_true]
    intro x hx
    have := q x hx
    simpa using this
  rw [a]
  simp [backToKw, keywordEach, hl]
theorem own_list (R : Rep K G z F ρ σ H) {i : Nat} {f : Bool} {xs : List D} (e : ρ[i]? = some (.ow f (.l xs))) : ∃ a vs, σ[i]? = some (some (.ref a)) ∧ H a = some (.lst vs) ∧ AtAll K F vs xs ∧ xs.length ≤ sizeLine := by
  obtain ⟨a, h1, _, _, _, vs, h2, h3, h4⟩ := R.ow e
  exact ⟨a, vs, h1, h2, h3, h4⟩
variable {i : Nat}
theorem snd_app (hN : X.N[i]? = some n) (hv : Vis X.env.scope n) (hd : (n == ("__debug__" : Str)) = false) (hcd : (n == ("__classdict__" : Str)) = false) (hline : (apos.endLine == pos.line) = true) (h1 : ∀ v p, e ≠ .Starred v p) (ha : PE X e (rdE X.K W Φ x)) :
    PE X (.Call (.Attribute (.Name n p) "append" apos) [e] [] pos) (rdE X.K W Φ (.app i x)) := by
  refine PE.imp (pe_bm PySem.F.plainAttrs_list PySem.F.slot_list_append PySem.F.type_list_append mt_append (pe_var hN hv hd hcd) (pa_cons ha pa_nil (star_of h1)) rfl (fewM (by simpa using h1) (by simp) _ _) hline (star_of h1) rfl) fun σ H Q ⟨G, z, F, ρ, R, h⟩ => ?_
  simp only [evE] at h
  split at h
  · rename_i f xs e
    obtain ⟨a, vs, g1, g2, g3, g4⟩ := own_list R e
    refine ⟨_, g1, .inl ⟨rfl, _, .of g2⟩, ?_⟩
    refine rd_frz R h fun d ρ1 F1 H1 v s1 R1 o1 h => ?_
    split at h
    · rename_i f' ys e'
      split at h
      · rename_i hz
        obtain ⟨a', us, k1, k2, k3, k4⟩ := own_list R1 e'
        rw [g1] at k1; cases k1
        refine ⟨a, us, v, rfl, rfl, k2, by rw [k3.length]; exact hz, ?_⟩
        exact Evs.here h (R1.put e' g1 ⟨_, upd_same, AtAll.append k3 (.one o1), by rw [List.length_append]; exact hz⟩) _ .non
      · exact h.elim
    · exact h.elim
  · exact h.elim
theorem snd_ext (hN : X.N[i]? = some n) (hv : Vis X.env.scope n) (hd : (n == ("__debug__" : Str)) = false) (hcd : (n == ("__classdict__" : Str)) = false) (hline : (apos.endLine == pos.line) = true) (h1 : ∀ v p, e ≠ .Starred v p) (ha : PE X e (rdE X.K W Φ x)) :
    PE X (.Call (.Attribute (.Name n p) "extend" apos) [e] [] pos) (rdE X.K W Φ (.ext i x)) := by
  refine PE.imp (pe_bm PySem.F.plainAttrs_list PySem.F.slot_list_extend PySem.F.type_list_extend mt_extend (pe_var hN hv hd hcd) (pa_cons ha pa_nil (star_of h1)) rfl (fewM (by simpa using h1) (by simp) _ _) hline (star_of h1) rfl) fun σ H Q ⟨G, z, F, ρ, R, h⟩ => ?_
  simp only [evE] at h
  split at h
  · rename_i f xs e
    obtain ⟨a, vs, g1, g2, g3, g4⟩ := own_list R e
    refine ⟨_, g1, .inl ⟨rfl, _, .of g2⟩, ?_⟩
    refine rd_any R h fun r ρ1 F1 H1 v s1 R1 o1 h => ?_
    split at h
    · rename_i zs f' ys e'
      split at h
      · rename_i hz
        obtain ⟨a', us, k1, k2, k3, k4⟩ := own_list R1 e'
        rw [g1] at k1; cases k1
        obtain ⟨b, rfl, q1, q2, q3, ts, q4, q5, q6⟩ := o1
        refine ⟨a, b, us, ts, rfl, rfl, k2, q4, by rw [k3.length, q5.length]; exact hz, ?_⟩
        exact Evs.here h (R1.put e' g1 ⟨_, upd_same, AtAll.append k3 q5, by rw [List.length_append]; exact hz⟩) _ .non
      · exact h.elim
    · exact h.elim
  · exact h.elim
theorem snd_pop (hN : X.N[i]? = some n) (hv : Vis X.env.scope n) (hd : (n == ("__debug__" : Str)) = false) (hcd : (n == ("__classdict__" : Str)) = false) (hline : (apos.endLine == pos.line) = true) (h1 : ∀ v p, e ≠ .Starred v p) (ha : PE X e (rdE X.K W Φ x)) :
    PE X (.Call (.Attribute (.Name n p) "pop" apos) [e] [] pos) (rdE X.K W Φ (.pop i x)) := by
  refine PE.imp (pe_bm PySem.F.plainAttrs_list PySem.F.slot_list_pop PySem.F.type_list_pop mt_popAt (pe_var hN hv hd hcd) (pa_cons ha pa_nil (star_of h1)) rfl (fewM (by simpa using h1) (by simp) _ _) hline (star_of h1) rfl) fun σ H Q ⟨G, z, F, ρ, R, h⟩ => ?_
  simp only [evE] at h
  split at h
  · rename_i f xs e
    obtain ⟨a, vs, g1, g2, g3, g4⟩ := own_list R e
    refine ⟨_, g1, .inl ⟨rfl, _, .of g2⟩, ?_⟩
    refine rd_any R h fun r ρ1 F1 H1 v s1 R1 o1 h => ?_
    split at h
    · rename_i j f' ys e'
      split at h
      · rename_i k hk
        split at h
        · rename_i d hd'
          obtain ⟨a', us, k1, k2, k3, k4⟩ := own_list R1 e'
          rw [g1] at k1; cases k1
          cases (show At X.K F1 v (.int j) from o1)
          obtain ⟨v', hv', av⟩ := k3.get hd'
          obtain ⟨b1, b2, b3, b4⟩ := ixN_seq hk
          have hn := line63
          have hl := k3.length
          refine ⟨a, us, j, k, v', rfl, rfl, k2, by omega, by omega, by rw [hl]; exact b1, hv', ?_⟩
          exact Evs.here h (R1.put e' g1 ⟨_, upd_same, AtAll.eraseIdx k k3, Nat.le_trans (len_erase _ _) k4⟩) _ av
        · exact h.elim
      · exact h.elim
    · exact h.elim
  · exact h.elim
theorem findIdx_lt {p : D → Bool} : ∀ {xs : List D} {j : Nat}, xs.findIdx? p = some j → ∃ d, xs[j]? = some d ∧ p d = true ∧ ∀ m d', m < j → xs[m]? = some d' → p d' = false
  | [], _, h => by simp at h
  | a :: xs, j, h => by
    rw [List.findIdx?_cons] at h
    split at h
    · rename_i c
      cases h
      exact ⟨a, rfl, c, fun m d' hm => by omega⟩
    · rename_i c
      obtain ⟨k, hk, rfl⟩ := Option.map_eq_some_iff.mp h
      obtain ⟨d, h1, h2, h3⟩ := findIdx_lt hk
      refine ⟨d, by simpa using h1, h2, fun m d' hm hd => ?_⟩
      cases m with
      | zero => simp at hd; subst hd; simpa using c
      | succ m => exact h3 m d' (by omega) (by simpa using hd)
theorem snd_index (hN : X.N[i]? = some n) (hv : Vis X.env.scope n) (hd : (n == ("__debug__" : Str)) = false) (hcd : (n == ("__classdict__" : Str)) = false) (hline : (apos.endLine == pos.line) = true) (h1 : ∀ v p, e ≠ .Starred v p) (ha : PE X e (rdE X.K W Φ x)) :
    PE X (.Call (.Attribute (.Name n p) "index" apos) [e] [] pos) (rdE X.K W Φ (.index (.var i) x)) := by
  refine PE.imp (pe_bm PySem.F.plainAttrs_list PySem.F.slot_list_index PySem.F.type_list_index mt_index (pe_var hN hv hd hcd) (pa_cons ha pa_nil (star_of h1)) rfl (fewM (by simpa using h1) (by simp) _ _) hline (star_of h1) rfl) fun σ H Q ⟨G, z, F, ρ, R, h⟩ => ?_
  simp only [evE] at h
  obtain ⟨r, v, g1, o, ho, h⟩ : ∃ (r : Sn.R) (v : V), σ[i]? = some (some v) ∧ OOk X.K F σ r v ∧ opr r ρ = .ok r ρ ∧ Evs X.K G z W σ F (if isLs (vw ρ r) = true then bnd (opr r ρ) fun a ρ => bnd (evE Φ x ρ) fun x ρ => bnd (opr x ρ) fun x ρ => bnd (Sn.opt (vw ρ a) ρ) fun a ρ => bnd (Sn.opt (vw ρ x) ρ) fun x ρ => Sn.opt ((idxD a x).map fun j => Sn.R.v (.int (j : Nat))) ρ else .no) (fun r ρ' F' H' => ∀ v, ROk X.K G F' H' ρ' σ r v → Q v H') := by
    split at h
    · rename_i d e
      obtain ⟨v, g1, g2⟩ := R.va e
      exact ⟨.v d, v, g1, g2, rfl, h⟩
    · rename_i f c e
      obtain ⟨a, g1, _⟩ := R.ow e
      exact ⟨.sl i, _, g1, g1, rfl, h⟩
    · exact h.elim
  split at h
  · rename_i hl
    rw [ho] at h
    simp only [bnd_ok] at h
    cases q : vw ρ r with
    | none => rw [q] at hl; cases hl
    | some d =>
      cases d with
      | list xs =>
        obtain ⟨a, vs, rfl, g2, _, _⟩ := (R.ovw o q).list R.fh R.hl
        refine ⟨_, g1, .inl ⟨rfl, _, .inl g2⟩, ?_⟩
        refine rd_opd R h fun t ρ1 F1 H1 w s1 R1 o1 h => ?_
        obtain ⟨da, e1, h⟩ := h.opt
        obtain ⟨dx, e2, h⟩ := h.opt
        obtain ⟨r', e3, h⟩ := h.optE
        unfold idxD at e3
        split at e3
        · rename_i ys
          split at e3
          · rename_i hf
            rw [Bool.and_eq_true] at hf
            obtain ⟨j, e4, rfl⟩ := Option.map_eq_some_iff.mp e3
            obtain ⟨b, us, eb, k2, k3, _⟩ := (R1.ovw (o.mono s1) e1).list R1.fh R1.hl
            cases eb
            have kx := (R1.ovw o1 e2).flat hf.1
            obtain ⟨d, f1, f2, f3⟩ := findIdx_lt e4
            obtain ⟨u, hu, au⟩ := k3.get f1
            have fl : isFlat d = true := List.all_eq_true.mp hf.2 d (List.mem_of_getElem? f1)
            refine ⟨a, us, w, j, u, rfl, rfl, .inl k2, flat_V kx hf.1, all_flat k3 hf.2, hu, by rw [eq_flat au kx fl hf.1]; exact f2, fun m u' hm hu' => ?_, Evs.here h R1 _ (.int _)⟩
            obtain ⟨d', hd', au'⟩ := k3.getV hu'
            rw [eq_flat au' kx (List.all_eq_true.mp hf.2 d' (List.mem_of_getElem? hd')) hf.1]
            exact f3 m d' hm hd'
          · cases e3
        · cases e3
      | _ => rw [q] at hl; cases hl
  · exact h.elim
theorem snd_get2 (hu : X.A.units + 1 < cLine) (hN : X.N[i]? = some n) (hv : Vis X.env.scope n) (hd : (n == ("__debug__" : Str)) = false) (hcd : (n == ("__classdict__" : Str)) = false) (hline : (apos.endLine == pos.line) = true) (h1 : ∀ v p, e1 ≠ .Starred v p) (h2 : ∀ v p, e2 ≠ .Starred v p)
    (ha : PE X e1 (rdE X.K W Φ x)) (hb : PE X e2 (rdE X.K W Φ y)) : PE X (.Call (.Attribute (.Name n p) "get" apos) [e1, e2] [] pos) (rdE X.K W Φ (.get2 (.var i) x y)) := by
  refine PE.imp (pe_dget2 hu (pe_var hN hv hd hcd) ha hb ⟨rfl, fewM (by simpa using ⟨h1, h2⟩) (by simp) _ _, hline, by rw [star_of h1, star_of h2]; rfl⟩) fun σ H Q ⟨G, z, F, ρ, R, h⟩ => ?_
  simp only [evE] at h
  cases q : ρ[i]? with
  | none => rw [q] at h; exact h.elim
  | some s =>
    cases s with
    | un => rw [q] at h; exact h.elim
    | lk => rw [q] at h; exact h.elim
    | v d => rw [q] at h; exact h.elim
    | ow f c =>
      rw [q] at h
      obtain ⟨a, g1, _, _, _, g5⟩ := R.ow q
      have main : ∀ {c : C}, ρ[i]? = some (.ow f c) → IsD H a → Evs X.K G z W σ F (bnd (evE Φ x ρ) fun k ρ => bnd (Sn.frz k ρ) fun k ρ => bnd (evE Φ y ρ) fun x ρ => bnd (Sn.frz x ρ) fun x ρ =>
          bnd (opt (vwC ρ (.sl i)) ρ) fun c ρ => bnd (opt (getC c k) ρ) fun r ρ => .ok (Sn.R.v (r.getD x)) ρ) (fun r ρ' F' H' => ∀ v, ROk X.K G F' H' ρ' σ r v → Q v H') →
          ∃ v, σ[i]? = some (some v) ∧ ∃ a, v = .ref a ∧ IsD H a ∧ rdE X.K W Φ x σ H fun y' H1 => rdE X.K W Φ y σ H1 fun z' H2 => ∃ o, DGet H2 a y' o ∧ Q (o.getD z') H2 := by
        intro c q isd h
        refine ⟨_, g1, a, rfl, isd, ?_⟩
        refine rd_frz R h fun dk ρ1 F1 H1 v s1 R1 o1 h => rd_frz R1 h fun dx ρ2 F2 H2 w s2 R2 o2 h => ?_
        obtain ⟨c2, e3, h⟩ := h.opt
        obtain ⟨o, e4, h⟩ := h.opt
        obtain ⟨a', u, e5, g, m⟩ := R2.dget (r := .sl i) (show σ[i]? = some (some (.ref a)) from g1) e3 (.inl (At.mono s2 o1)) e4
        cases e5
        refine ⟨u, g, Evs.here h R2 _ ?_⟩
        cases o with
        | none => simp only at m; subst m; exact o2
        | some d => obtain ⟨v', rfl, hv'⟩ := m; exact hv'
      cases c with
      | l xs => simp only [bnd_ok, q] at h; exact h.elim
      | t kvs =>
        obtain ⟨ws, k1, _⟩ := g5
        exact main q (.inr ⟨ws, .inl k1⟩) (by simpa only [bnd_ok, q] using h)
      | k kvs =>
        obtain ⟨ws, k1, _⟩ := g5
        exact main q (.inl ⟨ws, .inl k1⟩) (by simpa only [bnd_ok, q] using h)
end
end Sn

namespace Sn
open PySem PySem.Spec L2
variable {K : PySem.W.Frag} {F F' H H' G : Hp} {z : Pz} {ρ ρ' : List Sl} {σ σ' : St} {W : Str → St → Hp → Prop} {Φ : Nat → List D → Out} {α β : Type}
/-- the new objects among results -/
def nwV : List R → List V → List V
  | .nw _ :: rs, v :: vs => v :: nwV rs vs
  | _ :: rs, _ :: vs => nwV rs vs
  | _, _ => []
def isNw : R → Bool
  | .nw _ => true
  | _ => false
def RsOk (K : PySem.W.Frag) (G F H : Hp) (ρ : List Sl) (σ : St) : List R → List V → Prop
  | [], [] => True
  | r :: rs, v :: vs => ROk K G F H ρ σ r v ∧ (isNw r = true → v ∉ nwV rs vs) ∧ (∀ i, r ≠ .sl i) ∧ RsOk K G F H ρ σ rs vs
  | _, _ => False
def rdR (K : PySem.W.Frag) (W : Str → St → Hp → Prop) (Φ : Nat → List D → Out) (es : Exs) : TA := fun σ H Q => ∃ G z F ρ, Rep K G z F ρ σ H ∧ Evs K G z W σ F (evRs Φ es ρ) fun rs ρ' F' H' => ∀ vs, RsOk K G F' H' ρ' σ rs vs → Q vs H'
theorem RsOk.drop {a : Addr} {o : HO} (hG : G a = none) : ∀ {rs : List R} {vs : List V}, RsOk K (upd G a o) F H ρ σ rs vs → RsOk K G F H ρ σ rs vs ∧ V.ref a ∉ nwV rs vs
  | [], [], _ => ⟨trivial, by simp [nwV]⟩
  | r :: rs, v :: vs, h => by
    obtain ⟨h1, h2, h3, h4⟩ := h
    have ih := RsOk.drop hG h4
    cases r with
    | v d => exact ⟨⟨h1, h2, h3, ih.1⟩, ih.2⟩
    | nw c =>
      obtain ⟨b, rfl, q1, q2, q3, q4⟩ := h1
      have nb : b ≠ a := by rintro rfl; rw [upd_same] at q2; cases q2
      rw [upd_ne nb] at q2
      refine ⟨⟨⟨b, rfl, q1, q2, q3, q4⟩, h2, h3, ih.1⟩, ?_⟩
      simp only [nwV, List.mem_cons, not_or]
      exact ⟨fun e => nb (by cases e; rfl), ih.2⟩
    | sl i => exact absurd rfl (h3 i)
  | [], _ :: _, h => h.elim
  | _ :: _, [], h => h.elim
/-- stores into slots -/
def stσ : St → List Nat → List V → St
  | σ, i :: is, v :: vs => stσ (σ.set i (some v)) is vs
  | σ, _, _ => σ
theorem ROk.set {i : Nat} {r r' : R} {v v' : V} {a : Unit} (hn : isNw r = true → isNw r' = true → v ≠ v') (hr : ∀ i, r ≠ .sl i) (hr' : ∀ i, r' ≠ .sl i) (h1 : ROk K G F H ρ σ r v) (h : ROk K G F H ρ σ r' v') (e : setR i r ρ = .ok a ρ') : ROk K G F H ρ' (σ.set i (some v)) r' v' := by
  cases r' with
  | v d => exact h
  | sl i => exact absurd rfl (hr' i)
  | nw c' =>
    obtain ⟨b, rfl, q1, q2, q3, q4⟩ := h
    refine ⟨b, rfl, q1, q2, fun j o => ?_, q4⟩
    cases r with
    | sl i => exact absurd rfl (hr i)
    | v d =>
      obtain ⟨rfl, l⟩ := setS_ok e
      obtain ⟨f, c, e1, e2⟩ := o
      by_cases c1 : i = j
      · subst c1; rw [List.getElem?_set_self l] at e1; cases e1
      · rw [List.getElem?_set_ne c1] at e1 e2; exact q3 j ⟨f, c, e1, e2⟩
    | nw c0 =>
      obtain ⟨rfl, l⟩ := setS_ok e
      obtain ⟨f, c, e1, e2⟩ := o
      by_cases c1 : i = j
      · subst c1
        by_cases l2 : i < σ.length
        · rw [List.getElem?_set_self l2] at e2
          cases e2
          exact hn rfl rfl rfl
        · rw [List.getElem?_eq_none (by simpa using l2)] at e2; cases e2
      · rw [List.getElem?_set_ne c1] at e1 e2; exact q3 j ⟨f, c, e1, e2⟩
theorem RsOk.set {i : Nat} {r : R} {v : V} {a : Unit} (hr : ∀ i, r ≠ .sl i) (h1 : ROk K G F H ρ σ r v) (e : setR i r ρ = .ok a ρ') : ∀ {rs : List R} {vs : List V}, (isNw r = true → v ∉ nwV rs vs) → RsOk K G F H ρ σ rs vs → RsOk K G F H ρ' (σ.set i (some v)) rs vs
  | [], [], _, _ => trivial
  | r' :: rs, v' :: vs, hn, h => by
    obtain ⟨g1, g2, g3, g4⟩ := h
    refine ⟨ROk.set (fun a1 a2 e => ?_) hr g3 h1 g1 ‹_›, g2, g3, RsOk.set hr h1 e (fun a1 m => ?_) g4⟩
    · have := hn a1
      cases r' with
      | nw c => simp only [nwV, List.mem_cons, not_or] at this; exact this.1 e
      | v d => cases a2
      | sl i => cases a2
    · have := hn a1
      cases r' with
      | nw c => simp only [nwV, List.mem_cons, not_or] at this; exact this.2 m
      | v d => exact this m
      | sl i => exact absurd rfl (g3 i)
  | [], _ :: _, _, h => h.elim
  | _ :: _, [], _, h => h.elim
theorem Rep.setRs : ∀ {is : List Nat} {rs : List R} {vs : List V} {ρ ρ' : List Sl} {σ : St} {a : Unit}, Rep K G z F ρ σ H → RsOk K G F H ρ σ rs vs → Sn.setRs is rs ρ = .ok a ρ' → Rep K G z F ρ' (stσ σ is vs) H ∧ vs.length = is.length
  | [], [], [], _, _, _, _, P, _, e => by cases e; exact ⟨P, rfl⟩
  | i :: is, r :: rs, v :: vs, ρ, ρ', σ, a, P, h, e => by
    obtain ⟨h1, h2, h3, h4⟩ := h
    obtain ⟨u, ρ1, e1, e2⟩ := bnd_eq_ok (show bnd (Sn.setR i r ρ) (fun _ ρ => Sn.setRs is rs ρ) = .ok a ρ' from e)
    have q := Rep.setRs (P.setR h1 e1) (RsOk.set h3 h1 e1 h2 h4) e2
    exact ⟨q.1, by simp [q.2]⟩
  | [], _ :: _, _, _, _, _, _, _, _, e => by cases e
  | _ :: _, [], _, _, _, _, _, _, _, e => by cases e
  | _, [], _ :: _, _, _, _, _, _, h, _ => h.elim
  | _, _ :: _, [], _, _, _, _, _, h, _ => h.elim
theorem setRs_ex {c : Str} : ∀ {is : List Nat} {rs : List R} {ρ ρ' : List Sl}, setRs is rs ρ ≠ .ex c ρ'
  | [], [], _, _ => by intro h; cases h
  | [], _ :: _, _, _ => by intro h; cases h
  | _ :: _, [], _, _ => by intro h; cases h
  | i :: is, r :: rs, ρ, ρ' => by
    intro h
    have h : bnd (setR i r ρ) (fun _ ρ => setRs is rs ρ) = .ex c ρ' := h
    cases q : setR i r ρ with
    | ok a ρ1 => rw [q] at h; exact setRs_ex h
    | ex c' ρ1 => exact setR_ex q
    | no => rw [q] at h; cases h
section
variable {X : Cx} {e : Expr} {es : List Expr} {x : Ex} {xs : Exs} {pos pt pt2 : Pos}
theorem sndR_nil : PA X [] (rdR X.K W Φ .nil) := by
  refine PA.imp pa_nil fun σ H Q ⟨G, z, F, ρ, R, h⟩ => ?_
  simp only [evRs] at h
  exact Evs.here h R [] trivial
theorem sndR_cons (h : ∀ v p, e ≠ .Starred v p) (ha : PE X e (rdE X.K W Φ x)) (hs : PA X es (rdR X.K W Φ xs)) : PA X (e :: es) (rdR X.K W Φ (.cons x xs)) := by
  refine PA.imp (pa_cons ha hs (star_of h)) fun σ H Q ⟨G, z, F, ρ, R, h⟩ => ?_
  simp only [evRs] at h
  refine rd_any R h fun r ρ1 F1 H1 v s1 R1 o1 h => ?_
  cases r with
  | sl i => exact h.elim
  | v d => exact ⟨G, z, F1, ρ1, R1, Evs.seq h fun rs ρ2 F2 H2 s2 R2 h2 vs hvs => Evs.here h2 R2 (v :: vs) ⟨At.mono s2 o1, (by intro e; cases e), (by intro i e; cases e), hvs⟩⟩
  | nw c =>
    obtain ⟨a, rfl, hF, hG, hO, hc⟩ := o1
    cases ho : H1 a with
    | none => exact absurd ho hc.some
    | some ob =>
      have nt : ∀ xs, ob ≠ .tup xs := fun xs e => cok_notup hc xs (by rw [ho, e])
      refine ⟨upd G a ob, z, F1, ρ1, R1.addG ho nt hF hG hO, ?_⟩
      cases q : evRs Φ xs ρ1 with
      | no => rw [q] at h; exact h
      | ex c' ρ2 => rw [q] at h; exact fun F2 H2 s2 R2 => h F2 H2 s2 (R2.dropG hG).1
      | ok rs ρ2 =>
        rw [q] at h
        intro F2 H2 s2 R2 vs hvs
        obtain ⟨R3, h3, nF, nO⟩ := R2.dropG hG
        obtain ⟨k1, k2⟩ := RsOk.drop hG hvs
        exact h F2 H2 s2 R3 (.ref a :: vs) ⟨⟨a, rfl, nF, hG, nO, COk.mono s2 (by rw [h3, ho]) hc⟩, fun _ => k2, (by intro i e; cases e), k1⟩
/-- names stored one after another -/
def gNs : List Nat → TGs
  | [] => gNil
  | i :: is => gCons (gName i) (gNs is)
theorem gNs_of {H : Hp} {Q : St → Hp → Prop} : ∀ {is : List Nat} {vs : List V} {σ : St}, vs.length = is.length → Q (stσ σ is vs) H → gNs is vs σ H Q
  | [], [], σ, _, q => ⟨rfl, q⟩
  | i :: is, v :: vs, σ, h, q => ⟨v, vs, rfl, gNs_of (by simpa using h) q⟩
  | [], _ :: _, _, h, _ => by simp at h
  | _ :: _, [], _, h, _ => by simp at h
theorem Rep.newTup (P : Rep K G z F ρ σ H) {p : Addr} {o : HO} (n : H p = none) : Rep K G z F ρ σ (upd H p o) := P.updH (P.fh.none n) (P.gh.none n) fun i o => (P.own_none o).2.2 n
/-- (a, b, ..) = (x, y, ..) by way of a tuple -/
theorem sndS_parT {ts : List Expr} {is : List Nat} {k k2 : Nat} (hc : X.calm = true) (ha : PA X es (rdR X.K W Φ xs)) (hg : PGs X ts (gNs is)) (hl : ts.length = is.length) (hst : ∀ e ∈ ts, ∀ v p, e ≠ .Starred v p) (hz : ts.length ≤ 1000)
    (hw : swappedStores [.Tuple ts k pt] (.Tuple es k2 pt2) X.env = pure none) : PS X (.Assign [.Tuple ts k pt] (.Tuple es k2 pt2) pos) (rdS X.K W Φ (.par is xs)) := by
  have hh := asgEach_all (env := X.env) hst
  refine sndS_of (ps_asg (pe_tup ha) (pg_tup hc hg hh.1 hh.2) (by rfl) hw (by rfl)) fun G z F ρ D σ H R h => ?_
  simp only [evS] at h
  refine ⟨G, z, F, ρ, R, EvS.first h fun rs ρ1 F1 H1 s1 R1 h1 vs hvs => ?_⟩
  cases q : Sn.setRs is rs ρ1 with
  | no => rw [q] at h1; exact h1.elim
  | ex c ρ2 => exact (setRs_ex q).elim
  | ok u ρ2 =>
    rw [q] at h1
    obtain ⟨R2, l2⟩ := Rep.setRs R1 hvs q
    refine ⟨by rw [l2, ← hl]; exact Nat.le_trans hz (by decide), fun p np => ⟨p, vs, rfl, .of upd_same, by rw [l2, hl], gNs_of l2 ?_⟩⟩
    exact EvS.here (show EvS X.K G z W F1 (.ok .nx ρ2 : Res Fl) _ from h1) (R2.newTup np)
theorem sndS_par2 {i j : Nat} {n m : Str} {a b : Expr} {px py : Pos} {k k2 : Nat} (hc : X.calm = true) (hN : X.N.Nodup) (hi : X.N[i]? = some n) (hj : X.N[j]? = some m) (hij : i ≠ j)
    (hx : X.env.scope.names.lookup n = some .local) (hy : X.env.scope.names.lookup m = some .local) (ha : PA X [a, b] (rdR X.K W Φ xs))
    (hw : swappedStores [.Tuple [.Name n px, .Name m py] k pt] (.Tuple [a, b] k2 pt2) X.env = pure (some [n, m])) : PS X (.Assign [.Tuple [.Name n px, .Name m py] k pt] (.Tuple [a, b] k2 pt2) pos) (rdS X.K W Φ (.par [i, j] xs)) := by
  refine sndS_of (ps_par hc hN hi hj hij hx hy ha hw (by rfl)) fun G z F ρ D σ H R h => ?_
  simp only [evS] at h
  refine ⟨G, z, F, ρ, R, EvS.first h fun rs ρ1 F1 H1 s1 R1 h1 vs hvs => ?_⟩
  cases q : Sn.setRs [i, j] rs ρ1 with
  | no => rw [q] at h1; exact h1.elim
  | ex c ρ2 => exact (setRs_ex q).elim
  | ok u ρ2 =>
    rw [q] at h1
    obtain ⟨R2, l2⟩ := Rep.setRs R1 hvs q
    match vs, l2, R2 with
    | [v, w], _, R2 => exact ⟨v, w, rfl, EvS.here (show EvS X.K G z W F1 (.ok .nx ρ2 : Res Fl) _ from h1) R2⟩
theorem sndS_par3 {i j l : Nat} {n m o : Str} {a b c : Expr} {px py pz : Pos} {k k2 : Nat} (hc : X.calm = true) (hN : X.N.Nodup) (hi : X.N[i]? = some n) (hj : X.N[j]? = some m) (hl : X.N[l]? = some o) (hij : i ≠ j) (hil : i ≠ l) (hjl : j ≠ l)
    (hx : X.env.scope.names.lookup n = some .local) (hy : X.env.scope.names.lookup m = some .local) (hz : X.env.scope.names.lookup o = some .local) (ha : PA X [a, b, c] (rdR X.K W Φ xs))
    (hw : swappedStores [.Tuple [.Name n px, .Name m py, .Name o pz] k pt] (.Tuple [a, b, c] k2 pt2) X.env = pure (some [n, m, o])) : PS X (.Assign [.Tuple [.Name n px, .Name m py, .Name o pz] k pt] (.Tuple [a, b, c] k2 pt2) pos) (rdS X.K W Φ (.par [i, j, l] xs)) := by
  refine sndS_of (ps_par3 hc hN hi hj hl hij hil hjl hx hy hz ha hw (by rfl)) fun G z F ρ D σ H R h => ?_
  simp only [evS] at h
  refine ⟨G, z, F, ρ, R, EvS.first h fun rs ρ1 F1 H1 s1 R1 h1 vs hvs => ?_⟩
  cases q : Sn.setRs [i, j, l] rs ρ1 with
  | no => rw [q] at h1; exact h1.elim
  | ex c ρ2 => exact (setRs_ex q).elim
  | ok u ρ2 =>
    rw [q] at h1
    obtain ⟨R2, l2⟩ := Rep.setRs R1 hvs q
    match vs, l2, R2 with
    | [u, v, w], _, R2 => exact ⟨u, v, w, rfl, EvS.here (show EvS X.K G z W F1 (.ok .nx ρ2 : Res Fl) _ from h1) R2⟩
/-- what swappedStores answers, by the scope -/
def swpO (sc : Scope) (ts vs : List Expr) : Option (Option (List Str)) :=
  if !(ts.length == 2 || ts.length == 3) || vs.length != ts.length then some none else
  if vs.any (fun | .Starred .. => true | _ => false) then some none else
  let line := (ts.head?.map (·.pos.line)).getD 0
  let names := ts.filterMap fun
    | .Name id pos => if sc.names.lookup id == some .local && pos.line == line then some id else none
    | _ => none
  if names.length != ts.length || names.eraseDups.length != names.length then some none else
  if vs.all (foldedForSure 8) then some none else
  if vs.all (constantsAlone 8) then none else some (some names)
theorem swp_ok {env : PySem.Env} {ts vs : List Expr} {k k2 : Nat} {r : Option (List Str)} (hk : env.scope.kind = .function) (h : swpO env.scope ts vs = some r) : swappedStores [.Tuple ts k pt] (.Tuple vs k2 pt2) env = pure r := by
  have hb : env.blockKind = .function := by unfold Env.blockKind; rw [hk]; rfl
  have e : (ScopeKind.function != ScopeKind.function) = false := by decide
  unfold swpO at h
  unfold swappedStores
  simp only [hb, PySem.Env.kindOf, e, Bool.or_false]
  split at h
  · rename_i c; cases h; exact if_pos c
  · rename_i c
    refine (if_neg c).trans ?_
    split at h
    · rename_i c; cases h; exact if_pos c
    · rename_i c
      refine (if_neg c).trans ?_
      dsimp only at h
      split at h
      · rename_i c; cases h; exact if_pos c
      · rename_i c
        refine (if_neg c).trans ?_
        split at h
        · rename_i c; cases h; exact if_pos c
        · rename_i c
          refine (if_neg c).trans ?_
          split at h
          · cases h
          · rename_i c; cases h
            exact if_neg c
end
end Sn

namespace Sn
open PySem PySem.Spec L2
variable {K : PySem.W.Frag} {F F' H H' G : Hp} {z : Pz} {ρ ρ' : List Sl} {σ σ' : St} {W : Str → St → Hp → Prop} {Φ : Nat → List D → Out} {α β : Type}
theorem insU_mem {i k : Int} : ∀ {l : List Int}, k ∈ insU i l ↔ k = i ∨ k ∈ l
  | [] => by simp [insU]
  | j :: r => by
    unfold insU
    split
    · simp
    · split
      · rename_i e; subst e; simp
      · simp only [List.mem_cons, insU_mem (l := r)]
        constructor
        · rintro (h | h | h)
          · exact .inr (.inl h)
          · exact .inl h
          · exact .inr (.inr h)
        · rintro (h | h | h)
          · exact .inr (.inl h)
          · exact .inl h
          · exact .inr (.inr h)
theorem insU_sorted {i : Int} : ∀ {l : List Int}, l.Pairwise (· < ·) → (insU i l).Pairwise (· < ·)
  | [], _ => by simp [insU]
  | j :: r, h => by
    rw [List.pairwise_cons] at h
    unfold insU
    split
    · rename_i c
      rw [List.pairwise_cons]
      refine ⟨fun k hk => ?_, List.pairwise_cons.mpr h⟩
      rcases List.mem_cons.mp hk with rfl | hk
      · exact c
      · have := h.1 k hk; omega
    · split
      · exact List.pairwise_cons.mpr h
      · rename_i c1 c2
        rw [List.pairwise_cons]
        refine ⟨fun k hk => ?_, insU_sorted h.2⟩
        rcases insU_mem.mp hk with rfl | hk
        · omega
        · exact h.1 k hk
theorem setI_mem {k : Int} : ∀ {l : List Int}, k ∈ setI l ↔ k ∈ l
  | [] => by simp [setI]
  | j :: r => by
    have ih := setI_mem (k := k) (l := r)
    unfold setI at ih ⊢
    simp only [List.foldr_cons, insU_mem, List.mem_cons, ih]
theorem setI_sorted : ∀ {l : List Int}, (setI l).Pairwise (· < ·)
  | [] => by simp [setI]
  | j :: r => by
    have ih := setI_sorted (l := r)
    unfold setI at ih ⊢
    simp only [List.foldr_cons]
    exact insU_sorted ih
theorem sorted_uniq : ∀ {l m : List Int}, l.Pairwise (· < ·) → m.Pairwise (· < ·) → (∀ k, k ∈ l ↔ k ∈ m) → l = m
  | [], [], _, _, _ => rfl
  | [], b :: m, _, _, h => by have := (h b).mpr (by simp); cases this
  | a :: l, [], _, _, h => by have := (h a).mp (by simp); cases this
  | a :: l, b :: m, h1, h2, h => by
    rw [List.pairwise_cons] at h1 h2
    have e : a = b := by
      have p := (h a).mp (by simp)
      have q := (h b).mpr (by simp)
      rcases List.mem_cons.mp p with p | p
      · exact p
      · rcases List.mem_cons.mp q with q | q
        · exact q.symm
        · have := h1.1 b q; have := h2.1 a p; omega
    subst e
    have : l = m := sorted_uniq h1.2 h2.2 fun k => by
      constructor
      · intro hk
        have := h1.1 k hk
        rcases List.mem_cons.mp ((h k).mp (by simp [hk])) with r | r
        · omega
        · exact r
      · intro hk
        have := h2.1 k hk
        rcases List.mem_cons.mp ((h k).mpr (by simp [hk])) with r | r
        · omega
        · exact r
    rw [this]
def rSetTI (w : World) : List V → Hp → VK → Prop := fun vs H Q => ∃ (p : Addr) (ns : List Int), vs = [V.ref p] ∧ H p = some (.tup (ns.map V.int)) ∧ ns.length < 64 ∧ ∀ q n, H q = none → n ≤ ns.length → Q (.ref q) (upd H q (SetO w q (fun j => decide (j ∈ ns)) n))
theorem cr_setTI {X : Cx} (hc : X.calm = true) : CallR X (.type "set") (rSetTI X.w) := by
  intro pins s σ H vs us Q I r h
  obtain ⟨p, ns, rfl, hp, hl, q⟩ := h
  rw [Vals.ref1 r]
  obtain ⟨its, rv, pt, hz⟩ := I.tuple (SqT.of hp)
  refine call_set_tupI ns (I.ok.hd hc) (show s.heap.IsTuple p its.toArray from pt) (ints_of_vals rv) (by unfold scanBound; omega) fun h' tk c R1 hcn k => ?_
  exact ⟨.ref _, _, I.laid (t' := tk) k (Nat.le_refl _) (setO_new R1), rfl, q _ c (I.hok.fresh (Nat.le_refl _)) hcn⟩
theorem at_ints : ∀ ns : List Int, AtAll K F (ns.map V.int) (ns.map .int)
  | [] => .nil
  | i :: ns => .cons (.int i) (at_ints ns)
section
variable {X : Cx} {n m : Str} {p p2 pos apos : Pos} {e : Expr} {x : Ex}
theorem snd_srtSet (hc : X.calm = true) (hg : Gl X n) (hm : X.mg n = none) (hb : bootBuiltins n = some (.builtin "sorted")) (hn : n ≠ "__name__") (hd : (n == ("__debug__" : Str)) = false)
    (hg2 : Gl X m) (hm2 : X.mg m = none) (hb2 : bootBuiltins m = some (.type "set")) (hn2 : m ≠ "__name__") (hd2 : (m == ("__debug__" : Str)) = false) (h1 : ∀ v p, e ≠ .Starred v p) (ha : PE X e (rdE X.K W Φ x)) :
    PE X (.Call (.Name n p) [.Call (.Name m p2) [e] [] apos] [] pos) (rdE X.K W Φ (.bi .srtSet (.cons x .nil))) := by
  refine PE.imp (pe_callB (cr_sortedSet hc) hg hm hb (pa_cons (pe_callTy (cr_setTI hc) hg2 hm2 hb2 (pa_cons ha pa_nil (star_of h1)) hn2 hd2 (star_of h1) rfl) pa_nil) hn hd) fun σ H Q ⟨G, z, F, ρ, R, h⟩ => ?_
  simp only [evE] at h
  refine rd_opd R h fun r ρ1 F1 H1 v s1 R1 o1 h => ?_
  obtain ⟨dx, e1, h⟩ := h.opt
  obtain ⟨r', e2, h⟩ := h.optE
  have hx := R1.ovw o1 e1
  cases dx with
  | tuple ds =>
    simp only [setD, Option.bind_eq_some_iff] at e2
    obtain ⟨ns, e3, e4⟩ := e2
    have e3 := intsD_map e3
    subst e3
    split at e4
    · rename_i hl
      cases e4
      obtain ⟨a, vs, rfl, ha, ea, _⟩ := hx.tup R1.fh R1.hl
      cases ea.ints
      refine ⟨a, ns, rfl, ha, hl, fun q n nq hn => ⟨q, _, n, rfl, upd_same, by omega, fun ms p' hs hmem hml np => ?_⟩⟩
      have em : ms = setI ns := sorted_uniq hs setI_sorted fun k => by rw [hmem k, setI_mem]; simp
      subst em
      have R2 := R1.newTup (o := SetO X.w q (fun j => decide (j ∈ ns)) n) nq
      have st : Stp F1 _ F1 (upd (upd H1 q (SetO X.w q (fun j => decide (j ∈ ns)) n)) p' (.lst ((setI ns).map V.int))) := .new R2.fh R2.hl np
      refine h F1 _ .refl (R2.stp st) _ (R2.rnw st (r := .nw (.l _)) ⟨p', rfl, np, R2.fh.none np, _, upd_same, at_ints _, ?_⟩)
      have h3 : ((setI ns).map PyData.int).length = n := by rw [List.length_map]; exact hml
      rw [h3]
      exact Nat.le_trans hn (Nat.le_trans (Nat.le_of_lt hl) (by decide))
    · cases e4
  | _ => simp [setD] at e2
end
end Sn

namespace Sn
open PySem PySem.Spec L2
variable {K : PySem.W.Frag} {F F' H H' G : Hp} {z : Pz} {ρ ρ' : List Sl} {σ σ' : St} {W : Str → St → Hp → Prop} {Φ : Nat → List D → Out} {α β : Type}

/-- what is known of a place: the names by slot, the scope, the defs, the whole numbers and the builtins that are seen -/
structure Sg where
  N : List Str
  sc : Scope
  fnl : Option Scope
  fns : List (Str × Nat × Bool)
  nums : List (Str × Int)
  free : List Str
  excs : List Str
  en : Option Str
def Sg.fnB (g : Sg) (x : Str) : Bool := match g.fnl with
  | none => true
  | some s => s.names.lookup x == some .cell
def Sg.blk (g : Sg) (scope : Scope) : Sg := { g with sc := relS scope g.sc, fnl := some scope }
def visB (sc : Scope) (x : Str) : Bool := match sc.names.lookup x with
  | some .local => true
  | some .cell => true
  | some .free => true
  | _ => false
def locB (sc : Scope) (x : Str) : Bool := match sc.names.lookup x with
  | some .local => true
  | some .cell => true
  | _ => false
def dbgB (x : Str) : Bool := !(x == ("__debug__" : Str)) && !(x == ("__classdict__" : Str))
def slotB (g : Sg) (i : Nat) (x : Str) : Bool := decide (g.N[i]? = some x) && (visB g.sc x && dbgB x)
def tgtB (g : Sg) (i : Nat) (x : Str) : Bool := decide (g.N[i]? = some x) && (locB g.sc x && (g.fnB x || decide (g.sc.names.lookup x = some .local)))
def glB (g : Sg) (x : Str) : Bool := decide (g.sc.names.lookup x = some .globalImplicit) && dbgB x
/-- a builtin by its name -/
def frB (g : Sg) (x n : Str) : Bool := decide (x = n) && (glB g x && decide (x ∈ g.free))
def litB : D → Const → Bool
  | .none, .none => true
  | .bool a, .bool b => a == b
  | .int i, .int j => decide (i = j)
  | .str x, .str y => decide (x = y)
  | _, _ => false
def isZero : Ex → Bool
  | .lit (.int i) => decide (i = 0)
  | _ => false
def isTt : Ex → Bool
  | .lit (.bool b) => b
  | _ => false
def chT (g : Sg) : Tg → Expr → Bool
  | .nm i, .Name x _ => tgtB g i x
  | .tp c, .Tuple es _ _ => decide (tgLen c = some es.length) && chTs g c es
  | _, _ => false
where chTs (g : Sg) : Tg → List Expr → Bool
  | .nl, [] => true
  | .cs t r, e :: es => chT g t e && chTs g r es
  | _, _ => false
def ownP (g : Sg) (own : List Nat) : List (Str × Nat) := own.map fun i => (g.N.getD i ⟨#[]⟩, i)
mutual
def chE (g : Sg) : Ex → Expr → Bool
  | .var i, .Name x _ => slotB g i x
  | .lit d, .Constant c _ _ => litB d c
  | .lit (.int i), .Name x _ => glB g x && decide ((x, i) ∈ g.nums)
  | .bin o a b, .BinOp l op r _ => decide (op = opO o) && (chE g a l && chE g b r)
  | .neg a, .UnaryOp op e _ => decide (op = .USub) && chE g a e
  | .not a, .UnaryOp op e _ => decide (op = .Not) && chE g a e
  | .cmp a l, .Compare e ops es _ => chE g a e && chL g l ops es
  | .and es, .BoolOp op vs _ => decide (op = .And) && (!vs.isEmpty && chEs g es vs)
  | .or es, .BoolOp op vs _ => decide (op = .Or) && (!vs.isEmpty && chEs g es vs)
  | .ite c a b, .IfExp t x y _ => chE g c t && (chE g a x && chE g b y)
  | .tup es, .Tuple vs _ _ => chEs g es vs
  | .lst es, .List vs _ => chEs g es vs
  | .dnew _, .Dict ks vs _ => ks.isEmpty && vs.isEmpty
  | .ix a b, .Subscript e i _ => chE g a e && chE g b i
  | .slc a lo hi, .Subscript e (.Slice l h st _) _ => st.isNone && (chE g a e && ((match l with
    | none => isNil lo
    | some l => !isNil lo && chE g lo l) && (match h with
    | none => isNil hi
    | some h => !isNil hi && chE g hi h)))
  | .call f es, .Call (.Name n _) vs kws _ => kws.isEmpty && (glB g n && (decide ((n, f, false) ∈ g.fns) && (!vs.isEmpty && chEs g es vs)))
  | .callIO f i es, .Call (.Name n _) (.Name y _ :: vs) kws _ => kws.isEmpty && (glB g n && (decide ((n, f, true) ∈ g.fns) && (slotB g i y && chEs g es vs)))
  | .bi b es, .Call (.Name n _) vs kws _ => kws.isEmpty && (match b with
    | .len => frB g n "len" && (decide (vs.length = 1) && chEs g es vs)
    | .sum => frB g n "sum" && (decide (vs.length = 1) && chEs g es vs)
    | .all => frB g n "all" && (decide (vs.length = 1) && chEs g es vs)
    | .any => frB g n "any" && (decide (vs.length = 1) && chEs g es vs)
    | .sorted => frB g n "sorted" && (decide (vs.length = 1) && chEs g es vs)
    | .tuple => frB g n "tuple" && (decide (vs.length = 1) && chEs g es vs)
    | .list => frB g n "list" && (decide (vs.length = 1) && chEs g es vs)
    | .int => frB g n "int" && (decide (vs.length = 1) && chEs g es vs)
    | .abs => frB g n "abs" && (decide (vs.length = 1) && chEs g es vs)
    | .min1 => frB g n "min" && (decide (vs.length = 1) && chEs g es vs)
    | .minT => frB g n "min" && (decide (vs.length = 1) && chEs g es vs)
    | .max1 => frB g n "max" && (decide (vs.length = 1) && chEs g es vs)
    | .min2 => frB g n "min" && (decide (vs.length = 2) && chEs g es vs)
    | .max2 => frB g n "max" && (decide (vs.length = 2) && chEs g es vs)
    | .srtSet => frB g n "sorted" && (match vs with
      | [.Call (.Name m _) us kws _] => kws.isEmpty && (frB g m "set" && (decide (us.length = 1) && chEs g es us))
      | _ => false)
    | .isInt => frB g n "isinstance" && (match vs with
      | [e, .Name c _] => frB g c "int" && chEs g es [e]
      | _ => false)
    | .isBool => frB g n "isinstance" && (match vs with
      | [e, .Name c _] => frB g c "bool" && chEs g es [e]
      | _ => false)
    | .isTup => frB g n "isinstance" && (match vs with
      | [e, .Name c _] => frB g c "tuple" && chEs g es [e]
      | _ => false)
    | .isStr => frB g n "isinstance" && (match vs with
      | [e, .Name c _] => frB g c "str" && chEs g es [e]
      | _ => false)
    | .dict => false)
  | .listRg a b, .Call (.Name n _) [.Call (.Name r _) [e] kws2 _] kws _ => kws.isEmpty && (kws2.isEmpty && (frB g n "list" && (frB g r "range" && (isZero a && chE g b e))))
  | .listRg a b, .Call (.Name n _) [.Call (.Name r _) [e1, e2] kws2 _] kws _ => kws.isEmpty && (kws2.isEmpty && (frB g n "list" && (frB g r "range" && (chE g a e1 && chE g b e2))))
  | .tupRg a b, .Call (.Name n _) [.Call (.Name r _) [e] kws2 _] kws _ => kws.isEmpty && (kws2.isEmpty && (frB g n "tuple" && (frB g r "range" && (isZero a && chE g b e))))
  | .tupRg a b, .Call (.Name n _) [.Call (.Name r _) [e1, e2] kws2 _] kws _ => kws.isEmpty && (kws2.isEmpty && (frB g n "tuple" && (frB g r "range" && (chE g a e1 && chE g b e2))))
  | .app i x, .Call (.Attribute (.Name n _) at_ apos) [e] kws pos => kws.isEmpty && (decide (at_ = "append") && (slotB g i n && ((apos.endLine == pos.line) && chE g x e)))
  | .ext i x, .Call (.Attribute (.Name n _) at_ apos) [e] kws pos => kws.isEmpty && (decide (at_ = "extend") && (slotB g i n && ((apos.endLine == pos.line) && chE g x e)))
  | .pop i x, .Call (.Attribute (.Name n _) at_ apos) [e] kws pos => kws.isEmpty && (decide (at_ = "pop") && (slotB g i n && ((apos.endLine == pos.line) && chE g x e)))
  | .index (.var i) x, .Call (.Attribute (.Name n _) at_ apos) [e] kws pos => kws.isEmpty && (decide (at_ = "index") && (slotB g i n && ((apos.endLine == pos.line) && chE g x e)))
  | .get2 (.var i) k x, .Call (.Attribute (.Name n _) at_ apos) [e1, e2] kws pos => kws.isEmpty && (decide (at_ = "get") && (slotB g i n && ((apos.endLine == pos.line) && (chE g k e1 && chE g x e2))))
  | .lc elt tg it cd own, .ListComp el [⟨t, iter, ifs, asy⟩] scope _ => decide (asy = 0) && (blkC g.N g.sc scope (ownP g own) && ((slots tg).all (fun j => decide (j ∈ own)) && (chI g it t iter && (chT (g.blk scope) tg t && ((match ifs with
    | [] => isTt cd
    | [c] => chE (g.blk scope) cd c
    | _ => false) && chE (g.blk scope) elt el)))))
  | _, _ => false
def chEs (g : Sg) : Exs → List Expr → Bool
  | .nil, [] => true
  | .cons x xs, e :: es => chE g x e && chEs g xs es
  | _, _ => false
def chL (g : Sg) : Lks → List CmpOp → List Expr → Bool
  | .one o x, [op], [e] => decide (op = opC o) && chE g x e
  | .more o x l, op :: p :: ops, e :: f :: es => decide (op = opC o) && (chE g x e && chL g l (p :: ops) (f :: es))
  | _, _, _ => false
def chI (g : Sg) : It → Expr → Expr → Bool
  | .seq x, _, e => chE g x e
  | .rng a b, _, .Call (.Name n _) [e] kws _ => kws.isEmpty && (frB g n "range" && (isZero a && chE g b e))
  | .rng a b, _, .Call (.Name n _) [e1, e2] kws _ => kws.isEmpty && (frB g n "range" && (chE g a e1 && chE g b e2))
  | .enum x, .Tuple _ _ _, .Call (.Name n _) [e] kws _ => kws.isEmpty && (frB g n "enumerate" && chE g x e)
  | .zip a b, .Tuple _ _ _, .Call (.Name n _) [e1, e2] kws _ => kws.isEmpty && (frB g n "zip" && (chE g a e1 && chE g b e2))
  | .zip3 a b c, .Tuple _ _ _, .Call (.Name n _) [e1, e2, e3] kws _ => kws.isEmpty && (frB g n "zip" && (chE g a e1 && (chE g b e2 && chE g c e3)))
  | _, _, _ => false
end
def scB0 (N ps : List Str) (sc : Scope) : Bool := decide (sc.kind = .function) && (!sc.isCoroutine && (!sc.isGenerator && (decide N.Nodup && (decide (N.take ps.length = ps) && (ps.all (fun x => decide (sc.names.lookup x = some .local) || decide (sc.names.lookup x = some .cell)) && sc.names.all fun y => !decide (y.2 = .free))))))
theorem scB0_ok {N ps : List Str} {sc : Scope} (h : scB0 N ps sc = true) : FnScope N ps sc := by
  unfold scB0 at h
  simp only [Bool.and_eq_true, decide_eq_true_eq, List.all_eq_true, Bool.or_eq_true, Bool.not_eq_true', decide_eq_false_iff_not] at h
  obtain ⟨h1, h2, h3, h4, h5, h6, h7⟩ := h
  exact ⟨h1, h2, h3, h4, h5, h6, h7⟩
structure SgOk (X : Cx) (g : Sg) (W0 : WX) (Φ : Nat → List D → Out) : Prop where
  N : X.N = g.N
  sc : X.env.scope = g.sc
  nd : X.N.Nodup
  calm : X.calm = true
  hu : X.A.units + 65 < cLine
  kind : g.sc.kind = .function
  fn : ∀ x, X.fn x = g.fnB x
  free : ∀ x, x ∈ g.free → X.mg x = none
  nums : ∀ x i, (x, i) ∈ g.nums → ∃ u, X.mg x = some u ∧ RelV (.int i) u
  fns : ∀ x f io, (x, f, io) ∈ g.fns → ∃ k a fd ps, FnAt X Φ x f io k a fd ps
  tk : L2N.Takes X W0
end Sn

namespace Sn
open PySem PySem.Spec L2
variable {K : PySem.W.Frag} {F F' H H' G : Hp} {z : Pz} {ρ ρ' : List Sl} {σ σ' : St} {W : Str → St → Hp → Prop} {Φ : Nat → List D → Out} {α β : Type}
section
variable {X : Cx} {g : Sg} {W0 : WX}
theorem dbg_of {x : Str} (h : dbgB x = true) : (x == ("__debug__" : Str)) = false ∧ (x == ("__classdict__" : Str)) = false := by
  unfold dbgB at h
  rw [Bool.and_eq_true] at h
  exact ⟨by simpa using h.1, by simpa using h.2⟩
theorem SgOk.slot (O : SgOk X g W0 Φ) {i : Nat} {x : Str} (h : slotB g i x = true) : X.N[i]? = some x ∧ Vis X.env.scope x ∧ (x == ("__debug__" : Str)) = false ∧ (x == ("__classdict__" : Str)) = false := by
  unfold slotB at h
  simp only [Bool.and_eq_true, decide_eq_true_eq] at h
  obtain ⟨h1, h2, h3⟩ := h
  refine ⟨by rw [O.N]; exact h1, ?_, (dbg_of h3).1, (dbg_of h3).2⟩
  rw [O.sc]
  unfold visB at h2
  unfold Vis
  split at h2
  · rename_i e; exact .inl e
  · rename_i e; exact .inr (.inl e)
  · rename_i e; exact .inr (.inr e)
  · cases h2
theorem SgOk.tgt (O : SgOk X g W0 Φ) {i : Nat} {x : Str} (h : tgtB g i x = true) : X.N[i]? = some x ∧ Loc X.env.scope x ∧ (X.fn x = true ∨ X.env.scope.names.lookup x = some .local) := by
  unfold tgtB at h
  simp only [Bool.and_eq_true, decide_eq_true_eq, Bool.or_eq_true] at h
  obtain ⟨h1, h2, h3⟩ := h
  refine ⟨by rw [O.N]; exact h1, ?_, ?_⟩
  · rw [O.sc]
    unfold locB at h2
    unfold L2.Loc
    split at h2
    · rename_i e; exact .inl e
    · rename_i e; exact .inr e
    · cases h2
  · rw [O.fn, O.sc]; exact h3
theorem SgOk.gl (O : SgOk X g W0 Φ) {x : Str} (h : glB g x = true) : Gl X x ∧ (x == ("__debug__" : Str)) = false := by
  unfold glB at h
  simp only [Bool.and_eq_true, decide_eq_true_eq] at h
  refine ⟨?_, (dbg_of h.2).1⟩
  unfold Gl PySem.Env.kindOf
  rw [O.sc]; exact h.1
theorem SgOk.fr (O : SgOk X g W0 Φ) {x n : Str} (h : frB g x n = true) : x = n ∧ Gl X n ∧ X.mg n = none ∧ (n == ("__debug__" : Str)) = false := by
  unfold frB at h
  simp only [Bool.and_eq_true, decide_eq_true_eq] at h
  obtain ⟨rfl, h2, h3⟩ := h
  exact ⟨rfl, (O.gl h2).1, O.free _ h3, (O.gl h2).2⟩
theorem kws_nil {kws : List Keyword} (h : kws.isEmpty = true) : kws = [] := by cases kws <;> simp_all
theorem noStar_of {x : Ex} {e : Expr} (h : chE g x e = true) : ∀ v p, e ≠ .Starred v p := by
  rintro v p rfl
  cases x <;> first
    | exact Bool.noConfusion (show false = true from h)
    | (rename_i d; cases d <;> exact Bool.noConfusion (show false = true from h))
    | (rename_i d _ _; cases d <;> exact Bool.noConfusion (show false = true from h)) | (rename_i d _; cases d <;> exact Bool.noConfusion (show false = true from h))
theorem noSlice_of {x : Ex} {e : Expr} (h : chE g x e = true) : ∀ lo hi s p, e ≠ .Slice lo hi s p := by
  rintro v p s q rfl
  cases x <;> first
    | exact Bool.noConfusion (show false = true from h)
    | (rename_i d; cases d <;> exact Bool.noConfusion (show false = true from h))
    | (rename_i d _ _; cases d <;> exact Bool.noConfusion (show false = true from h)) | (rename_i d _; cases d <;> exact Bool.noConfusion (show false = true from h))
theorem noSet_of {x : Ex} {e : Expr} (h : chE g x e = true) : ∀ s k p, e ≠ .Set s k p := by
  rintro v p s rfl
  cases x <;> first
    | exact Bool.noConfusion (show false = true from h)
    | (rename_i d; cases d <;> exact Bool.noConfusion (show false = true from h))
    | (rename_i d _ _; cases d <;> exact Bool.noConfusion (show false = true from h)) | (rename_i d _; cases d <;> exact Bool.noConfusion (show false = true from h))
theorem noStars_of : ∀ {xs : Exs} {es : List Expr}, chEs g xs es = true → ∀ e ∈ es, ∀ v p, e ≠ .Starred v p
  | .nil, [], _, e, he => by cases he
  | .cons x xs, e :: es, h, f, hf => by
    have h := show (chE g x e && chEs g xs es) = true from h
    rw [Bool.and_eq_true] at h
    rcases List.mem_cons.mp hf with rfl | hf
    · exact noStar_of h.1
    · exact noStars_of h.2 f hf
  | .nil, _ :: _, h, _, _ => Bool.noConfusion (show false = true from h)
  | .cons _ _, [], h, _, _ => Bool.noConfusion (show false = true from h)
theorem plainIx_of {e : Expr} (h : ∀ lo hi s p, e ≠ .Slice lo hi s p) : PlainIx e := by
  intro o i
  cases e <;> first | rfl | exact absurd rfl (h _ _ _ _)
theorem folded_of {e : Expr} (h : ∀ s k p, e ≠ .Set s k p) (env : PySem.Env) : ∀ v, foldedSetIterable e env v = pure v := by
  intro v
  cases e <;> first | rfl | exact absurd rfl (h _ _ _)
theorem marks_of {e : Expr} (h : ∀ s k p, e ≠ .Set s k p) (op : CmpOp) : behindInMarks op e = false := by
  cases e <;> first | rfl | exact absurd rfl (h _ _ _)
theorem lastMarks_of : ∀ {l : Lks} {ops : List CmpOp} {es : List Expr}, chL g l ops es = true → lastMarks ops es = false
  | .one o x, [op], [e], h => by
    have h := show (decide (op = opC o) && chE g x e) = true from h
    rw [Bool.and_eq_true] at h
    show behindInMarks op e = false
    exact marks_of (noSet_of h.2) op
  | .more o x l, op :: p :: ops, e :: f :: es, h => by
    have h := show (decide (op = opC o) && (chE g x e && chL g l (p :: ops) (f :: es))) = true from h
    simp only [Bool.and_eq_true] at h
    show lastMarks (p :: ops) (f :: es) = false
    exact lastMarks_of h.2.2
  | .one _ _, [], _, h => Bool.noConfusion (show false = true from h)
  | .one _ _, [_], [], h => Bool.noConfusion (show false = true from h)
  | .one _ _, [_], _ :: _ :: _, h => Bool.noConfusion (show false = true from h)
  | .one _ _, _ :: _ :: _, _, h => Bool.noConfusion (show false = true from h)
  | .more _ _ _, [], _, h => Bool.noConfusion (show false = true from h)
  | .more _ _ _, [_], _, h => Bool.noConfusion (show false = true from h)
  | .more _ _ _, _ :: _ :: _, [], h => Bool.noConfusion (show false = true from h)
  | .more _ _ _, _ :: _ :: _, [_], h => Bool.noConfusion (show false = true from h)
theorem sndT_ite {c a b : Expr} {w x y : Ex} {pos : Pos} (hc : PT X c (rdT X.K W Φ w)) (ha : PT X a (rdT X.K W Φ x)) (hb : PT X b (rdT X.K W Φ y)) : PT X (.IfExp c a b pos) (rdT X.K W Φ (.ite w x y)) := by
  refine ⟨fun pins s σ H Q I ⟨G, z, F, ρ, R, h⟩ => ?_⟩
  simp only [evE] at h
  show wpAny _ _ (do if ← isTrue c X.env (eval c X.env) then isTrue a X.env (eval a X.env) else isTrue b X.env (eval b X.env)) _ _ s
  have h' : Evs X.K G z W σ F (bnd (evE Φ w ρ) fun x' ρ => bnd (toB x' ρ) fun k ρ => bnd (if k then evE Φ x ρ else evE Φ y ρ) toB) fun b _ _ H' => Q b H' := by
    have e : (bnd (bnd (evE Φ w ρ) fun x' ρ => bnd (toB x' ρ) fun k ρ => if k then evE Φ x ρ else evE Φ y ρ) toB) = bnd (evE Φ w ρ) fun x' ρ => bnd (toB x' ρ) fun k ρ => bnd (if k then evE Φ x ρ else evE Φ y ρ) toB := by
      rw [bnd_assoc]; congr 1; funext u ρ; rw [bnd_assoc]
    rw [← e]; exact h
  have t : rdT X.K W Φ w σ H fun k H1 => if k = true then rdT X.K W Φ x σ H1 Q else rdT X.K W Φ y σ H1 Q := rd_test R h' fun k ρ1 F1 H1 s1 R1 h1 => by
    cases k with
    | true => exact ⟨G, z, F1, ρ1, R1, h1⟩
    | false => exact ⟨G, z, F1, ρ1, R1, h1⟩
  refine wpAny_bind (thn (hc.run pins s σ H _ I t) fun k s1 ⟨H1, I1, q1⟩ => ?_)
  cases k with
  | true => exact ha.run pins s1 σ H1 Q I1 q1
  | false => exact hb.run pins s1 σ H1 Q I1 q1
mutual
theorem sG (O : SgOk X g W0 Φ) : ∀ {t : Tg} {e : Expr}, chT g t e = true → PG X e (rdG X.K t)
  | .nm i, e, h => by
    cases e <;> first | exact Bool.noConfusion (show false = true from h) | skip
    obtain ⟨h1, h2, h3⟩ := O.tgt (show tgtB g i _ = true from h)
    exact sndG_nm O.nd h1 h2 h3
  | .tp c, e, h => by
    cases e <;> first | exact Bool.noConfusion (show false = true from h) | skip
    rename_i es k pos
    have h := show (decide (tgLen c = some es.length) && chT.chTs g c es) = true from h
    simp only [Bool.and_eq_true, decide_eq_true_eq] at h
    obtain ⟨q1, q2⟩ := sGs O h.2
    exact sndG_tp O.calm q2 h.1 q1
  | .nl, e, h => Bool.noConfusion (show false = true from h)
  | .cs _ _, e, h => Bool.noConfusion (show false = true from h)
theorem sGs (O : SgOk X g W0 Φ) : ∀ {t : Tg} {es : List Expr}, chT.chTs g t es = true → PGs X es (rdGs X.K t) ∧ ∀ e ∈ es, ∀ v p, e ≠ .Starred v p
  | .nl, [], h => ⟨sndGs_nil, fun e he => by cases he⟩
  | .cs t r, e :: es, h => by
    have h := show (chT g t e && chT.chTs g r es) = true from h
    rw [Bool.and_eq_true] at h
    have ns : ∀ v p, e ≠ .Starred v p := by
      rintro v p rfl
      cases t <;> exact Bool.noConfusion (show false = true from h.1)
    obtain ⟨q1, q2⟩ := sGs O h.2
    refine ⟨sndGs_cons ns (sG O h.1) q1, fun f hf => ?_⟩
    rcases List.mem_cons.mp hf with rfl | hf
    · exact ns
    · exact q2 f hf
  | .nl, _ :: _, h => Bool.noConfusion (show false = true from h)
  | .cs _ _, [], h => Bool.noConfusion (show false = true from h)
  | .nm _, _, h => Bool.noConfusion (show false = true from h)
  | .tp _, _, h => Bool.noConfusion (show false = true from h)
end
theorem takes_no : L2N.Takes X fun _ _ _ _ => False := fun u s' ⟨_, _, _, _, _, _, _, _, _, _, _, _, _, _, _, _, w⟩ => w.elim
theorem SgOk.inBlk (O : SgOk X g W0 Φ) {scope : Scope} (hk : scope.kind = .function) (s : Shared) (H : Hp) (C : Addr) (cl : List (Str × Addr)) (fp : List Addr) :
    SgOk (X.blk s H scope (compEnvC scope cl C X.env) fp) (g.blk scope) (fun _ _ _ _ => False) Φ := by
  refine ⟨O.N, ?_, O.nd, O.calm, O.hu, hk, fun x => rfl, O.free, O.nums, fun x f io h => ?_, takes_no⟩
  · show relS scope X.env.scope = relS scope g.sc
    rw [O.sc]
  · obtain ⟨k, a, fd, ps, A⟩ := O.fns x f io h
    exact ⟨k, a, fd, ps, A.ok, A.room, A.mg, A.kp, A.bd⟩
theorem Evs.wish {W' : Str → St → Hp → Prop} {r : Res α} {P : α → List Sl → Hp → Hp → Prop} (hw : ∀ c σ H, W c σ H → W' c σ H) (h : Evs K G z W σ F r P) : Evs K G z W' σ F r P := by
  cases r with
  | ok a ρ' => exact h
  | ex c ρ' => exact fun F2 H2 s2 R => hw _ _ _ (h F2 H2 s2 R)
  | no => exact h
theorem PE.no {X' : Cx} {e : Expr} {x : Ex} (h : PE X' e (rdE X'.K (wOf X' W0) Φ x)) : PE X' e (rdE X'.K noW Φ x) :=
  PE.imp h fun σ H Q ⟨G, z, F, ρ, R, q⟩ => ⟨G, z, F, ρ, R, Evs.wish (fun _ _ _ w => w.elim) q⟩
theorem PT.no {X' : Cx} {e : Expr} {x : Ex} (h : PT X' e (rdT X'.K (wOf X' W0) Φ x)) : PT X' e (rdT X'.K noW Φ x) :=
  PT.imp h fun σ H Q ⟨G, z, F, ρ, R, q⟩ => ⟨G, z, F, ρ, R, Evs.wish (fun _ _ _ w => w.elim) q⟩
theorem ownP_snd (own : List Nat) : (ownP g own).map (·.2) = own := by unfold ownP; rw [List.map_map]; exact List.map_id own
end
end Sn

namespace Sn
open PySem PySem.Spec L2
variable {K : PySem.W.Frag} {F F' H H' G : Hp} {z : Pz} {ρ ρ' : List Sl} {σ σ' : St} {W : Str → St → Hp → Prop} {Φ : Nat → List D → Out} {α β : Type}
theorem bb_len : bootBuiltins "len" = some (.builtin "len") := by decide +kernel
theorem bb_sum : bootBuiltins "sum" = some (.builtin "sum") := by decide +kernel
theorem bb_all : bootBuiltins "all" = some (.builtin "all") := by decide +kernel
theorem bb_any : bootBuiltins "any" = some (.builtin "any") := by decide +kernel
theorem bb_sorted : bootBuiltins "sorted" = some (.builtin "sorted") := by decide +kernel
theorem bb_abs : bootBuiltins "abs" = some (.builtin "abs") := by decide +kernel
theorem bb_min : bootBuiltins "min" = some (.builtin "min") := by decide +kernel
theorem bb_max : bootBuiltins "max" = some (.builtin "max") := by decide +kernel
theorem bb_isinstance : bootBuiltins "isinstance" = some (.builtin "isinstance") := by decide +kernel
theorem bb_tuple : bootBuiltins "tuple" = some (.type "tuple") := by decide +kernel
theorem bb_list : bootBuiltins "list" = some (.type "list") := by decide +kernel
theorem bb_int : bootBuiltins "int" = some (.type "int") := by decide +kernel
theorem bb_bool : bootBuiltins "bool" = some (.type "bool") := by decide +kernel
theorem bb_str : bootBuiltins "str" = some (.type "str") := by decide +kernel
theorem bb_set : bootBuiltins "set" = some (.type "set") := by decide +kernel
section
variable {X : Cx} {g : Sg} {W0 : WX}
/-- what is proved of a list of arguments -/
structure EsOk (X : Cx) (W : Str → St → Hp → Prop) (Φ : Nat → List D → Out) (xs : Exs) (es : List Expr) : Prop where
  a : PA X es (rdA X.K W Φ xs)
  r : PA X es (rdR X.K W Φ xs)
  and : ∀ pos, es ≠ [] → PE X (.BoolOp .And es pos) (rdE X.K W Φ (.and xs))
  or : ∀ pos, es ≠ [] → PE X (.BoolOp .Or es pos) (rdE X.K W Φ (.or xs))
  wand : ∀ pos, es ≠ [] → PW X (.BoolOp .And es pos) (rdAnd X.K W Φ xs)
  wor : ∀ pos, es ≠ [] → PW X (.BoolOp .Or es pos) (rdOr X.K W Φ xs)
  one : ∀ x e, xs = .cons x .nil → es = [e] → PE X e (rdE X.K W Φ x)
  two : ∀ x y e f, xs = .cons x (.cons y .nil) → es = [e, f] → PE X e (rdE X.K W Φ x) ∧ PE X f (rdE X.K W Φ y)
theorem one_of {xs : Exs} {es : List Expr} (hl : es.length = 1) (h : chEs g xs es = true) : ∃ x e, xs = .cons x .nil ∧ es = [e] ∧ (∀ v p, e ≠ .Starred v p) := by
  match xs, es, hl, h with
  | .cons x .nil, [e], _, h => exact ⟨x, e, rfl, rfl, noStars_of h e (by simp)⟩
  | .nil, [e], _, h => exact Bool.noConfusion (show false = true from h)
  | .cons x (.cons _ _), [e], _, h =>
    have h := show (chE g x e && false) = true from h
    rw [Bool.and_false] at h
    cases h
theorem two_of {xs : Exs} {es : List Expr} (hl : es.length = 2) (h : chEs g xs es = true) : ∃ x y e f, xs = .cons x (.cons y .nil) ∧ es = [e, f] ∧ (∀ v p, e ≠ .Starred v p) ∧ (∀ v p, f ≠ .Starred v p) := by
  match xs, es, hl, h with
  | .cons x (.cons y .nil), [e, f], _, h => exact ⟨x, y, e, f, rfl, rfl, noStars_of h e (by simp), noStars_of h f (by simp)⟩
  | .nil, [e, f], _, h => exact Bool.noConfusion (show false = true from h)
  | .cons x .nil, [e, f], _, h =>
    have h := show (chE g x e && false) = true from h
    rw [Bool.and_false] at h
    cases h
  | .cons x (.cons y (.cons _ _)), [e, f], _, h =>
    have h := show (chE g x e && (chE g y f && false)) = true from h
    simp at h
theorem isZero_of {x : Ex} (h : isZero x = true) : x = .lit (.int 0) := by
  cases x <;> first | exact Bool.noConfusion (show false = true from h) | skip
  rename_i d
  cases d <;> first | exact Bool.noConfusion (show false = true from h) | skip
  have h := of_decide_eq_true (show decide (_ = (0 : Int)) = true from h)
  rw [h]
theorem isTt_of {x : Ex} (h : isTt x = true) : x = .lit (.bool true) := by
  cases x <;> first | exact Bool.noConfusion (show false = true from h) | skip
  rename_i d
  cases d <;> first | exact Bool.noConfusion (show false = true from h) | skip
  rename_i b
  cases b
  · exact Bool.noConfusion (show false = true from h)
  · rfl
theorem isNil_of {x : Ex} (h : isNil x = true) : x = .lit .none := by
  cases x <;> first | exact Bool.noConfusion (show false = true from h) | skip
  rename_i d
  cases d <;> first | exact Bool.noConfusion (show false = true from h) | rfl
theorem s_bi {b : Bi} {n : Str} {vs : List Expr} {es : Exs} {p pos : Pos} (hl : vs.length = 1) (hc : chEs g es vs = true) (E : EsOk X (wOf X W0) Φ es vs)
    (rule : ∀ x e, (∀ v p, e ≠ .Starred v p) → PE X e (rdE X.K (wOf X W0) Φ x) → PE X (.Call (.Name n p) [e] [] pos) (rdE X.K (wOf X W0) Φ (.bi b (.cons x .nil)))) :
    PE X (.Call (.Name n p) vs [] pos) (rdE X.K (wOf X W0) Φ (.bi b es)) := by
  obtain ⟨x, e, rfl, rfl, ns⟩ := one_of hl hc
  exact rule x e ns (E.one x e rfl rfl)
theorem s_bi2 {b : Bi} {n : Str} {vs : List Expr} {es : Exs} {p pos : Pos} (hl : vs.length = 2) (hc : chEs g es vs = true) (E : EsOk X (wOf X W0) Φ es vs)
    (rule : ∀ x y e f, (∀ v p, e ≠ .Starred v p) → (∀ v p, f ≠ .Starred v p) → PE X e (rdE X.K (wOf X W0) Φ x) → PE X f (rdE X.K (wOf X W0) Φ y) → PE X (.Call (.Name n p) [e, f] [] pos) (rdE X.K (wOf X W0) Φ (.bi b (.cons x (.cons y .nil))))) :
    PE X (.Call (.Name n p) vs [] pos) (rdE X.K (wOf X W0) Φ (.bi b es)) := by
  obtain ⟨x, y, e, f, rfl, rfl, n1, n2⟩ := two_of hl hc
  obtain ⟨q1, q2⟩ := E.two x y e f rfl rfl
  exact rule x y e f n1 n2 q1 q2
theorem s_isi (O : SgOk X g W0 Φ) {b : Bi} {T : String} {n : Str} {vs : List Expr} {es : Exs} {p pos : Pos} (hT : biT b = some T) (hbT : bootBuiltins (T : Str) = some (.type T)) (hnT : (T : Str) ≠ "__name__") (hf : frB g n "isinstance" = true)
    (hb : (match vs with | [e, .Name c _] => frB g c T && chEs g es [e] | _ => false) = true) (E : ∀ us, chEs g es us = true → EsOk X (wOf X W0) Φ es us)
    (hev : ∀ x ρ, evE Φ (.bi b (.cons x .nil)) ρ = bnd (evE Φ x ρ) fun x ρ => bnd (opr x ρ) fun x ρ => bnd (opt (vw ρ x) ρ) fun x ρ => opt (biD b [x]) ρ) : PE X (.Call (.Name n p) vs [] pos) (rdE X.K (wOf X W0) Φ (.bi b es)) := by
  split at hb
  · rename_i e c pc
    rw [Bool.and_eq_true] at hb
    obtain ⟨rfl, h1, h2, h3⟩ := O.fr hf
    obtain ⟨rfl, k1, k2, k3⟩ := O.fr hb.1
    obtain ⟨x, e', rfl, e2, ns⟩ := one_of (by rfl) hb.2
    cases e2
    exact snd_isi hT h1 h2 bb_isinstance (by decide) h3 ns k1 k2 hbT hnT k3 ((E _ hb.2).one x e rfl rfl) (hev x)
  · cases hb
theorem valT {e : Expr} {x : Ex} (h : PE X e (rdE X.K W Φ x)) (hf : ∀ whole, isTrue e X.env whole = (do let v ← whole; standAt e.pos; holding [v] (truthy v))) : PE X e (rdE X.K W Φ x) ∧ PT X e (rdT X.K W Φ x) := ⟨h, sndT_val h hf⟩
theorem noSetI_of {it : It} {t e : Expr} (h : chI g it t e = true) : ∀ s k p, e ≠ .Set s k p := by
  rintro s k p rfl
  cases it with
  | seq x => exact noSet_of (show chE g x _ = true from h) _ _ _ rfl
  | _ => cases t <;> exact Bool.noConfusion (show false = true from h)
/-- the parts of a comprehension -/
structure LcOk (X : Cx) (W : Str → St → Hp → Prop) (Φ : Nat → List D → Out) (elt : Ex) (tg : Tg) (it : It) (cd : Ex) (own : List (Str × Nat)) (el t iter : Expr) (ifs : List Expr) (scope : Scope) : Prop where
  blk : BlkOk X.N X.env.scope scope own
  own : ∀ j ∈ slots tg, j ∈ own.map (·.2)
  it : PI X t iter (rdI X.K W Φ it)
  tg : ∀ (s : Shared) (H : Hp) (C : Addr) (cl : List (Str × Addr)) (fp : List Addr), PG (X.blk s H scope (compEnvC scope cl C X.env) fp) t (rdG X.K tg)
  cd : ∀ (s : Shared) (H : Hp) (C : Addr) (cl : List (Str × Addr)) (fp : List Addr), PTs (X.blk s H scope (compEnvC scope cl C X.env) fp) ifs (rdT X.K noW Φ cd)
  elt : ∀ (s : Shared) (H : Hp) (C : Addr) (cl : List (Str × Addr)) (fp : List Addr), PE (X.blk s H scope (compEnvC scope cl C X.env) fp) el (rdE X.K noW Φ elt)
  fold : ∀ v, foldedSetIterable iter X.env v = pure v
theorem lc_parts {elt : Ex} {tg : Tg} {it : It} {cd : Ex} {own : List Nat} {el : Expr} {gens : List Comprehension} {scope : Scope} {pos : Pos} (hE : ∀ {X : Cx} {g : Sg} {W0 : WX} (_ : SgOk X g W0 Φ) {e : Expr}, chE g elt e = true → PE X e (rdE X.K (wOf X W0) Φ elt))
    (hC : ∀ {X : Cx} {g : Sg} {W0 : WX} (_ : SgOk X g W0 Φ) {e : Expr}, chE g cd e = true → PT X e (rdT X.K (wOf X W0) Φ cd)) (hI : ∀ {X : Cx} {g : Sg} {W0 : WX} (_ : SgOk X g W0 Φ) {t e : Expr}, chI g it t e = true → PI X t e (rdI X.K (wOf X W0) Φ it))
    (O : SgOk X g W0 Φ) (h : chE g (.lc elt tg it cd own) (.ListComp el gens scope pos) = true) : ∃ t iter ifs, gens = [⟨t, iter, ifs, 0⟩] ∧ LcOk X (wOf X W0) Φ elt tg it cd (ownP g own) el t iter ifs scope := by
  match gens, h with
  | [⟨t, iter, ifs, asy⟩], h =>
    have h := show (decide (asy = 0) && (blkC g.N g.sc scope (ownP g own) && ((slots tg).all (fun j => decide (j ∈ own)) && (chI g it t iter && (chT (g.blk scope) tg t && (_ && chE (g.blk scope) elt el)))))) = true from h
    simp only [Bool.and_eq_true, decide_eq_true_eq] at h
    obtain ⟨rfl, h1, h2, h3, h4, h5, h6⟩ := h
    have hb := blkOk_by h1
    refine ⟨t, iter, ifs, rfl, by rw [O.N, O.sc]; exact hb, fun j hj => ?_, hI O h3, fun s H C cl fp => sG (O.inBlk hb.kind s H C cl fp) h4, fun s H C cl fp => ?_, fun s H C cl fp => PE.no (hE (O.inBlk hb.kind s H C cl fp) h6), folded_of (noSetI_of h3) _⟩
    · rw [ownP_snd]
      rw [List.all_eq_true] at h2
      exact of_decide_eq_true (h2 j hj)
    · cases ifs with
      | nil => rw [isTt_of h5]; exact pts_lit
      | cons c cs =>
        cases cs with
        | nil => exact pts_one (PT.no (hC (O.inBlk hb.kind s H C cl fp) h5))
        | cons _ _ => exact Bool.noConfusion (show false = true from h5)
mutual
theorem sE : ∀ (x : Ex) {X : Cx} {g : Sg} {W0 : WX} (O : SgOk X g W0 Φ) {e : Expr}, chE g x e = true → PE X e (rdE X.K (wOf X W0) Φ x) ∧ PT X e (rdT X.K (wOf X W0) Φ x)
  | .var i, X, g, W0, O, e, h => by
    cases e <;> first | exact Bool.noConfusion (show false = true from h) | skip
    obtain ⟨h1, h2, h3, h4⟩ := O.slot (show slotB g i _ = true from h)
    exact valT (snd_var h1 h2 h3 h4) fun _ => rfl
  | .lit d, X, g, W0, O, e, h => by
    cases e <;> first | exact Bool.noConfusion (show false = true from h) | (cases d <;> exact Bool.noConfusion (show false = true from h)) | skip
    case Constant c k pos =>
      have h : litB d c = true := by cases d <;> exact h
      cases d <;> cases c <;> first | exact Bool.noConfusion (show false = true from h) | skip
      · exact valT (snd_val pe_non fun _ => .non) fun _ => rfl
      · have h := eq_of_beq (show (_ == _) = true from h); subst h; exact valT (snd_val pe_bl fun _ => .bl _) fun _ => rfl
      · have h := of_decide_eq_true (show decide (_ = _) = true from h); subst h; exact valT (snd_val pe_int fun _ => .int _) fun _ => rfl
      · have h := of_decide_eq_true (show decide (_ = _) = true from h); subst h; exact valT (snd_val pe_str fun _ => .str _) fun _ => rfl
    case Name n pos =>
      cases d <;> first | exact Bool.noConfusion (show false = true from h) | skip
      rename_i i
      have h := show (glB g n && decide ((n, i) ∈ g.nums)) = true from h
      simp only [Bool.and_eq_true, decide_eq_true_eq] at h
      obtain ⟨u, hu, ru⟩ := O.nums n i h.2
      exact valT (snd_val (pe_glob (O.gl h.1).1 hu ru (O.gl h.1).2) fun _ => .int _) fun _ => rfl
  | .bin o a b, X, g, W0, O, e, h => by
    cases e <;> first | exact Bool.noConfusion (show false = true from h) | skip
    rename_i l op r pos
    have h := show (decide (op = opO o) && (chE g a l && chE g b r)) = true from h
    simp only [Bool.and_eq_true, decide_eq_true_eq] at h
    obtain ⟨rfl, h1, h2⟩ := h
    exact valT (snd_bin (sE a O h1).1 (sE b O h2).1) fun _ => rfl
  | .neg a, X, g, W0, O, e, h => by
    cases e <;> first | exact Bool.noConfusion (show false = true from h) | skip
    rename_i op l pos
    have h := show (decide (op = .USub) && chE g a l) = true from h
    simp only [Bool.and_eq_true, decide_eq_true_eq] at h
    obtain ⟨rfl, h1⟩ := h
    exact valT (snd_neg (sE a O h1).1) fun _ => rfl
  | .not a, X, g, W0, O, e, h => by
    cases e <;> first | exact Bool.noConfusion (show false = true from h) | skip
    rename_i op l pos
    have h := show (decide (op = .Not) && chE g a l) = true from h
    simp only [Bool.and_eq_true, decide_eq_true_eq] at h
    obtain ⟨rfl, h1⟩ := h
    exact ⟨snd_not (sE a O h1).1, sndT_not (sE a O h1).2⟩
  | .cmp a l, X, g, W0, O, e, h => by
    cases e <;> first | exact Bool.noConfusion (show false = true from h) | skip
    rename_i left ops es pos
    have h := show (chE g a left && chL g l ops es) = true from h
    rw [Bool.and_eq_true] at h
    obtain ⟨q1, q2⟩ := sL l O h.2
    have hm := lastMarks_of h.2
    cases ops with
    | nil => cases l <;> exact Bool.noConfusion (show false = true from h.2)
    | cons op ops =>
      cases es with
      | nil => cases l <;> cases ops <;> exact Bool.noConfusion (show false = true from h.2)
      | cons f es => exact ⟨snd_cmp (sE a O h.1).1 (q1 pos) hm, sndT_cmp (sE a O h.1).1 (q2 pos) hm⟩
  | .ite c a b, X, g, W0, O, e, h => by
    cases e <;> first | exact Bool.noConfusion (show false = true from h) | skip
    rename_i t x y pos
    have h := show (chE g c t && (chE g a x && chE g b y)) = true from h
    simp only [Bool.and_eq_true] at h
    have hc := (sE c O h.1).2
    exact ⟨snd_ite hc (sE a O h.2.1).1 (sE b O h.2.2).1, sndT_ite hc (sE a O h.2.1).2 (sE b O h.2.2).2⟩
  | .tup xs, X, g, W0, O, e, h => by
    cases e <;> first | exact Bool.noConfusion (show false = true from h) | skip
    exact valT (snd_tup (sEs xs O h).a) fun _ => rfl
  | .lst xs, X, g, W0, O, e, h => by
    cases e <;> first | exact Bool.noConfusion (show false = true from h) | skip
    exact valT (snd_lst (sEs xs O h).a) fun _ => rfl
  | .dnew t, X, g, W0, O, e, h => by
    cases e <;> first | exact Bool.noConfusion (show false = true from h) | skip
    rename_i ks vs pos
    have h := show (ks.isEmpty && vs.isEmpty) = true from h
    rw [Bool.and_eq_true] at h
    cases ks with
    | nil =>
      cases vs with
      | nil => exact valT snd_dnew fun _ => rfl
      | cons _ _ => simp at h
    | cons _ _ => simp at h
  | .ix a b, X, g, W0, O, e, h => by
    cases e <;> first | exact Bool.noConfusion (show false = true from h) | skip
    rename_i o i pos
    have h := show (chE g a o && chE g b i) = true from h
    rw [Bool.and_eq_true] at h
    exact valT (snd_ix O.hu (sE a O h.1).1 (sE b O h.2).1 (plainIx_of (noSlice_of h.2))) fun _ => rfl
  | .slc a lo hi, X, g, W0, O, e, h => by
    cases e <;> first | exact Bool.noConfusion (show false = true from h) | skip
    rename_i o i pos
    cases i <;> first | exact Bool.noConfusion (show false = true from h) | skip
    rename_i l u st p2
    have h := show (st.isNone && (chE g a o && (_ && _))) = true from h
    simp only [Bool.and_eq_true] at h
    obtain ⟨h0, h1, h2, h3⟩ := h
    cases st with
    | some _ => cases h0
    | none =>
      have pl : PO X l (rdO X.K (wOf X W0) Φ lo) := by
        cases l with
        | none => rw [isNil_of h2]; exact sndO_none
        | some l =>
          have h2 := show (!isNil lo && chE g lo l) = true from h2
          rw [Bool.and_eq_true] at h2
          exact sndO_some (sE lo O h2.2).1 (by simpa using h2.1)
      have pu : PO X u (rdO X.K (wOf X W0) Φ hi) := by
        cases u with
        | none => rw [isNil_of h3]; exact sndO_none
        | some l =>
          have h3 := show (!isNil hi && chE g hi l) = true from h3
          rw [Bool.and_eq_true] at h3
          exact sndO_some (sE hi O h3.2).1 (by simpa using h3.1)
      exact valT (snd_slc (sE a O h1).1 pl pu) fun _ => rfl
  | .rev _, X, g, W0, O, e, h => by cases e <;> exact Bool.noConfusion (show false = true from h)
  | .stp _ _, X, g, W0, O, e, h => by cases e <;> exact Bool.noConfusion (show false = true from h)
  | .disp _ _, X, g, W0, O, e, h => by cases e <;> exact Bool.noConfusion (show false = true from h)
  | .ins _ _ _, X, g, W0, O, e, h => by cases e <;> exact Bool.noConfusion (show false = true from h)
  | .pop0 _, X, g, W0, O, e, h => by cases e <;> exact Bool.noConfusion (show false = true from h)
  | .split _ _, X, g, W0, O, e, h => by cases e <;> exact Bool.noConfusion (show false = true from h)
  | .and xs, X, g, W0, O, e, h => by
    cases e <;> first | exact Bool.noConfusion (show false = true from h) | skip
    rename_i op vs pos
    have h := show (decide (op = .And) && (!vs.isEmpty && chEs g xs vs)) = true from h
    simp only [Bool.and_eq_true, decide_eq_true_eq] at h
    obtain ⟨rfl, h1, h2⟩ := h
    have E := sEs xs O h2
    have hne : vs ≠ [] := by rintro rfl; simp at h1
    exact ⟨E.and pos hne, sndT_and (E.wand pos hne)⟩
  | .or xs, X, g, W0, O, e, h => by
    cases e <;> first | exact Bool.noConfusion (show false = true from h) | skip
    rename_i op vs pos
    have h := show (decide (op = .Or) && (!vs.isEmpty && chEs g xs vs)) = true from h
    simp only [Bool.and_eq_true, decide_eq_true_eq] at h
    obtain ⟨rfl, h1, h2⟩ := h
    have E := sEs xs O h2
    have hne : vs ≠ [] := by rintro rfl; simp at h1
    exact ⟨E.or pos hne, sndT_or (E.wor pos hne)⟩
  | .call f xs, X, g, W0, O, e, h => by
    cases e <;> first | exact Bool.noConfusion (show false = true from h) | skip
    rename_i fn vs kws pos
    cases fn <;> first | exact Bool.noConfusion (show false = true from h) | skip
    rename_i n p
    have h := show (kws.isEmpty && (glB g n && (decide ((n, f, false) ∈ g.fns) && (!vs.isEmpty && chEs g xs vs)))) = true from h
    simp only [Bool.and_eq_true, decide_eq_true_eq] at h
    obtain ⟨h0, h1, h2, h3, h4⟩ := h
    cases kws_nil h0
    obtain ⟨k, a, fd, ps, A⟩ := O.fns n f false h2
    cases vs with
    | nil => simp at h3
    | cons v vs => exact valT (snd_call O.tk A (O.gl h1).1 (O.gl h1).2 (noStars_of h4 v (by simp)) (fun e he => noStars_of h4 e (by simp [he])) (sEs xs O h4).a) fun _ => rfl
  | .callIO f i xs, X, g, W0, O, e, h => by
    cases e <;> first | exact Bool.noConfusion (show false = true from h) | skip
    rename_i fn vs kws pos
    cases fn <;> first | exact Bool.noConfusion (show false = true from h) | skip
    rename_i n p
    cases vs <;> first | exact Bool.noConfusion (show false = true from h) | skip
    rename_i v vs
    cases v <;> first | exact Bool.noConfusion (show false = true from h) | skip
    rename_i y py
    have h := show (kws.isEmpty && (glB g n && (decide ((n, f, true) ∈ g.fns) && (slotB g i y && chEs g xs vs)))) = true from h
    simp only [Bool.and_eq_true, decide_eq_true_eq] at h
    obtain ⟨h0, h1, h2, h3, h4⟩ := h
    cases kws_nil h0
    obtain ⟨k, a, fd, ps, A⟩ := O.fns n f true h2
    obtain ⟨s1, s2, s3, s4⟩ := O.slot h3
    exact valT (snd_callIO O.tk A (O.gl h1).1 (O.gl h1).2 s1 s2 s3 s4 (noStars_of h4) (sEs xs O h4).a) fun _ => rfl
  | .bi b xs, X, g, W0, O, e, h => by
    cases e <;> first | exact Bool.noConfusion (show false = true from h) | skip
    rename_i fn vs kws pos
    cases fn <;> first | exact Bool.noConfusion (show false = true from h) | skip
    rename_i n p
    have key : PE X (.Call (.Name n p) vs kws pos) (rdE X.K (wOf X W0) Φ (.bi b xs)) := by
      cases b with
      | dict =>
        have h := show (kws.isEmpty && false) = true from h
        rw [Bool.and_false] at h; cases h
      | srtSet =>
        have h := show (kws.isEmpty && (frB g n "sorted" && _)) = true from h
        simp only [Bool.and_eq_true] at h
        obtain ⟨h0, h1, h2⟩ := h
        cases kws_nil h0
        split at h2
        · rename_i m pm us kws2 pos2
          simp only [Bool.and_eq_true, decide_eq_true_eq] at h2
          obtain ⟨k0, k1, k2, k3⟩ := h2
          cases kws_nil k0
          obtain ⟨rfl, q1, q2, q3⟩ := O.fr h1
          obtain ⟨rfl, r1, r2, r3⟩ := O.fr k1
          have E := sEs xs O k3
          obtain ⟨x, e, rfl, rfl, ns⟩ := one_of k2 k3
          exact snd_srtSet O.calm q1 q2 bb_sorted (by decide) q3 r1 r2 bb_set (by decide) r3 ns (E.one x e rfl rfl)
        · cases h2
      | isInt =>
        have h := show (kws.isEmpty && (frB g n "isinstance" && _)) = true from h
        simp only [Bool.and_eq_true] at h
        cases kws_nil h.1
        exact s_isi O (T := "int") rfl bb_int (by decide) h.2.1 h.2.2 (fun us q => sEs xs O q) (fun _ _ => by simp only [evE])
      | isBool =>
        have h := show (kws.isEmpty && (frB g n "isinstance" && _)) = true from h
        simp only [Bool.and_eq_true] at h
        cases kws_nil h.1
        exact s_isi O (T := "bool") rfl bb_bool (by decide) h.2.1 h.2.2 (fun us q => sEs xs O q) (fun _ _ => by simp only [evE])
      | isTup =>
        have h := show (kws.isEmpty && (frB g n "isinstance" && _)) = true from h
        simp only [Bool.and_eq_true] at h
        cases kws_nil h.1
        exact s_isi O (T := "tuple") rfl bb_tuple (by decide) h.2.1 h.2.2 (fun us q => sEs xs O q) (fun _ _ => by simp only [evE])
      | isStr =>
        have h := show (kws.isEmpty && (frB g n "isinstance" && _)) = true from h
        simp only [Bool.and_eq_true] at h
        cases kws_nil h.1
        exact s_isi O (T := "str") rfl bb_str (by decide) h.2.1 h.2.2 (fun us q => sEs xs O q) (fun _ _ => by simp only [evE])
      | len =>
        have h := show (kws.isEmpty && (frB g n "len" && (decide (vs.length = 1) && chEs g xs vs))) = true from h
        simp only [Bool.and_eq_true, decide_eq_true_eq] at h
        obtain ⟨h0, h1, h2, h3⟩ := h
        cases kws_nil h0
        obtain ⟨rfl, q1, q2, q3⟩ := O.fr h1
        exact s_bi h2 h3 (sEs xs O h3) fun x e ns p1 => snd_bi1 bi_len q1 q2 bb_len (by decide) q3 ns p1 (fun _ => by simp only [evE])
      | sum =>
        have h := show (kws.isEmpty && (frB g n "sum" && (decide (vs.length = 1) && chEs g xs vs))) = true from h
        simp only [Bool.and_eq_true, decide_eq_true_eq] at h
        obtain ⟨h0, h1, h2, h3⟩ := h
        cases kws_nil h0
        obtain ⟨rfl, q1, q2, q3⟩ := O.fr h1
        exact s_bi h2 h3 (sEs xs O h3) fun x e ns p1 => snd_bi1 (bi_sum O.calm) q1 q2 bb_sum (by decide) q3 ns p1 (fun _ => by simp only [evE])
      | all =>
        have h := show (kws.isEmpty && (frB g n "all" && (decide (vs.length = 1) && chEs g xs vs))) = true from h
        simp only [Bool.and_eq_true, decide_eq_true_eq] at h
        obtain ⟨h0, h1, h2, h3⟩ := h
        cases kws_nil h0
        obtain ⟨rfl, q1, q2, q3⟩ := O.fr h1
        exact s_bi h2 h3 (sEs xs O h3) fun x e ns p1 => snd_bi1 (bi_all O.calm) q1 q2 bb_all (by decide) q3 ns p1 (fun _ => by simp only [evE])
      | any =>
        have h := show (kws.isEmpty && (frB g n "any" && (decide (vs.length = 1) && chEs g xs vs))) = true from h
        simp only [Bool.and_eq_true, decide_eq_true_eq] at h
        obtain ⟨h0, h1, h2, h3⟩ := h
        cases kws_nil h0
        obtain ⟨rfl, q1, q2, q3⟩ := O.fr h1
        exact s_bi h2 h3 (sEs xs O h3) fun x e ns p1 => snd_bi1 (bi_any O.calm) q1 q2 bb_any (by decide) q3 ns p1 (fun _ => by simp only [evE])
      | tuple =>
        have h := show (kws.isEmpty && (frB g n "tuple" && (decide (vs.length = 1) && chEs g xs vs))) = true from h
        simp only [Bool.and_eq_true, decide_eq_true_eq] at h
        obtain ⟨h0, h1, h2, h3⟩ := h
        cases kws_nil h0
        obtain ⟨rfl, q1, q2, q3⟩ := O.fr h1
        exact s_bi h2 h3 (sEs xs O h3) fun x e ns p1 => snd_bi1T bi_tuple q1 q2 bb_tuple (by decide) q3 ns p1 (fun _ => by simp only [evE])
      | list =>
        have h := show (kws.isEmpty && (frB g n "list" && (decide (vs.length = 1) && chEs g xs vs))) = true from h
        simp only [Bool.and_eq_true, decide_eq_true_eq] at h
        obtain ⟨h0, h1, h2, h3⟩ := h
        cases kws_nil h0
        obtain ⟨rfl, q1, q2, q3⟩ := O.fr h1
        exact s_bi h2 h3 (sEs xs O h3) fun x e ns p1 => snd_bi1T bi_list q1 q2 bb_list (by decide) q3 ns p1 (fun _ => by simp only [evE])
      | int =>
        have h := show (kws.isEmpty && (frB g n "int" && (decide (vs.length = 1) && chEs g xs vs))) = true from h
        simp only [Bool.and_eq_true, decide_eq_true_eq] at h
        obtain ⟨h0, h1, h2, h3⟩ := h
        cases kws_nil h0
        obtain ⟨rfl, q1, q2, q3⟩ := O.fr h1
        exact s_bi h2 h3 (sEs xs O h3) fun x e ns p1 => snd_bi1T bi_int q1 q2 bb_int (by decide) q3 ns p1 (fun _ => by simp only [evE])
      | abs =>
        have h := show (kws.isEmpty && (frB g n "abs" && (decide (vs.length = 1) && chEs g xs vs))) = true from h
        simp only [Bool.and_eq_true, decide_eq_true_eq] at h
        obtain ⟨h0, h1, h2, h3⟩ := h
        cases kws_nil h0
        obtain ⟨rfl, q1, q2, q3⟩ := O.fr h1
        exact s_bi h2 h3 (sEs xs O h3) fun x e ns p1 => snd_bi1 bi_abs q1 q2 bb_abs (by decide) q3 ns p1 (fun _ => by simp only [evE])
      | min1 =>
        have h := show (kws.isEmpty && (frB g n "min" && (decide (vs.length = 1) && chEs g xs vs))) = true from h
        simp only [Bool.and_eq_true, decide_eq_true_eq] at h
        obtain ⟨h0, h1, h2, h3⟩ := h
        cases kws_nil h0
        obtain ⟨rfl, q1, q2, q3⟩ := O.fr h1
        exact s_bi h2 h3 (sEs xs O h3) fun x e ns p1 => snd_bi1 (bi_min1 O.calm) q1 q2 bb_min (by decide) q3 ns p1 (fun _ => by simp only [evE])
      | minT =>
        have h := show (kws.isEmpty && (frB g n "min" && (decide (vs.length = 1) && chEs g xs vs))) = true from h
        simp only [Bool.and_eq_true, decide_eq_true_eq] at h
        obtain ⟨h0, h1, h2, h3⟩ := h
        cases kws_nil h0
        obtain ⟨rfl, q1, q2, q3⟩ := O.fr h1
        exact s_bi h2 h3 (sEs xs O h3) fun x e ns p1 => snd_bi1 (bi_minT O.calm O.hu) q1 q2 bb_min (by decide) q3 ns p1 (fun _ => by simp only [evE])
      | max1 =>
        have h := show (kws.isEmpty && (frB g n "max" && (decide (vs.length = 1) && chEs g xs vs))) = true from h
        simp only [Bool.and_eq_true, decide_eq_true_eq] at h
        obtain ⟨h0, h1, h2, h3⟩ := h
        cases kws_nil h0
        obtain ⟨rfl, q1, q2, q3⟩ := O.fr h1
        exact s_bi h2 h3 (sEs xs O h3) fun x e ns p1 => snd_bi1 (bi_max1 O.calm) q1 q2 bb_max (by decide) q3 ns p1 (fun _ => by simp only [evE])
      | sorted =>
        have h := show (kws.isEmpty && (frB g n "sorted" && (decide (vs.length = 1) && chEs g xs vs))) = true from h
        simp only [Bool.and_eq_true, decide_eq_true_eq] at h
        obtain ⟨h0, h1, h2, h3⟩ := h
        cases kws_nil h0
        obtain ⟨rfl, q1, q2, q3⟩ := O.fr h1
        exact s_bi h2 h3 (sEs xs O h3) fun x e ns p1 => snd_sorted O.calm O.hu q1 q2 bb_sorted (by decide) q3 ns p1
      | min2 =>
        have h := show (kws.isEmpty && (frB g n "min" && (decide (vs.length = 2) && chEs g xs vs))) = true from h
        simp only [Bool.and_eq_true, decide_eq_true_eq] at h
        obtain ⟨h0, h1, h2, h3⟩ := h
        cases kws_nil h0
        obtain ⟨rfl, q1, q2, q3⟩ := O.fr h1
        exact s_bi2 h2 h3 (sEs xs O h3) fun x y e f n1 n2 p1 p2 => snd_bi2 (bi_min2 O.calm) q1 q2 bb_min (by decide) q3 n1 n2 p1 p2 (fun _ => by simp only [evE])
      | max2 =>
        have h := show (kws.isEmpty && (frB g n "max" && (decide (vs.length = 2) && chEs g xs vs))) = true from h
        simp only [Bool.and_eq_true, decide_eq_true_eq] at h
        obtain ⟨h0, h1, h2, h3⟩ := h
        cases kws_nil h0
        obtain ⟨rfl, q1, q2, q3⟩ := O.fr h1
        exact s_bi2 h2 h3 (sEs xs O h3) fun x y e f n1 n2 p1 p2 => snd_bi2 (bi_max2 O.calm) q1 q2 bb_max (by decide) q3 n1 n2 p1 p2 (fun _ => by simp only [evE])
    exact valT key fun _ => rfl
  | .listRg a b, X, g, W0, O, e, h => by
    cases e <;> first | exact Bool.noConfusion (show false = true from h) | skip
    rename_i fn vs kws pos
    cases fn <;> first | exact Bool.noConfusion (show false = true from h) | skip
    rename_i n p
    cases vs <;> first | exact Bool.noConfusion (show false = true from h) | skip
    rename_i v vs
    cases v <;> first | exact Bool.noConfusion (show false = true from h) | skip
    rename_i fr us kws2 p2
    cases fr <;> first | exact Bool.noConfusion (show false = true from h) | skip
    rename_i r pr
    cases us <;> first | exact Bool.noConfusion (show false = true from h) | skip
    rename_i e1 us
    cases us
    · cases vs <;> first | exact Bool.noConfusion (show false = true from h) | skip
      have h := show (kws.isEmpty && (kws2.isEmpty && (frB g n "list" && (frB g r "range" && (isZero a && chE g b e1))))) = true from h
      simp only [Bool.and_eq_true] at h
      obtain ⟨h0, h1, h2, h3, h4, h5⟩ := h
      cases kws_nil h0; cases kws_nil h1
      obtain ⟨rfl, q1, q2, q3⟩ := O.fr h2
      obtain ⟨rfl, r1, r2, r3⟩ := O.fr h3
      have P := (sE b O h5).1
      have ns := noStar_of h5
      rw [isZero_of h4]
      exact valT (snd_listRg1 O.calm q1 q2 r1 r2 ns P) fun _ => rfl
    · rename_i e2 us
      cases us <;> first | exact Bool.noConfusion (show false = true from h) | skip
      cases vs <;> first | exact Bool.noConfusion (show false = true from h) | skip
      have h := show (kws.isEmpty && (kws2.isEmpty && (frB g n "list" && (frB g r "range" && (chE g a e1 && chE g b e2))))) = true from h
      simp only [Bool.and_eq_true] at h
      obtain ⟨h0, h1, h2, h3, h4, h5⟩ := h
      cases kws_nil h0; cases kws_nil h1
      obtain ⟨rfl, q1, q2, q3⟩ := O.fr h2
      obtain ⟨rfl, r1, r2, r3⟩ := O.fr h3
      exact valT (snd_listRg2 O.calm q1 q2 r1 r2 (noStar_of h4) (noStar_of h5) (sE a O h4).1 (sE b O h5).1) fun _ => rfl
  | .tupRg a b, X, g, W0, O, e, h => by
    cases e <;> first | exact Bool.noConfusion (show false = true from h) | skip
    rename_i fn vs kws pos
    cases fn <;> first | exact Bool.noConfusion (show false = true from h) | skip
    rename_i n p
    cases vs <;> first | exact Bool.noConfusion (show false = true from h) | skip
    rename_i v vs
    cases v <;> first | exact Bool.noConfusion (show false = true from h) | skip
    rename_i fr us kws2 p2
    cases fr <;> first | exact Bool.noConfusion (show false = true from h) | skip
    rename_i r pr
    cases us <;> first | exact Bool.noConfusion (show false = true from h) | skip
    rename_i e1 us
    cases us
    · cases vs <;> first | exact Bool.noConfusion (show false = true from h) | skip
      have h := show (kws.isEmpty && (kws2.isEmpty && (frB g n "tuple" && (frB g r "range" && (isZero a && chE g b e1))))) = true from h
      simp only [Bool.and_eq_true] at h
      obtain ⟨h0, h1, h2, h3, h4, h5⟩ := h
      cases kws_nil h0; cases kws_nil h1
      obtain ⟨rfl, q1, q2, q3⟩ := O.fr h2
      obtain ⟨rfl, r1, r2, r3⟩ := O.fr h3
      have P := (sE b O h5).1
      have ns := noStar_of h5
      rw [isZero_of h4]
      exact valT (snd_tupRg1 O.calm q1 q2 r1 r2 ns P) fun _ => rfl
    · rename_i e2 us
      cases us <;> first | exact Bool.noConfusion (show false = true from h) | skip
      cases vs <;> first | exact Bool.noConfusion (show false = true from h) | skip
      have h := show (kws.isEmpty && (kws2.isEmpty && (frB g n "tuple" && (frB g r "range" && (chE g a e1 && chE g b e2))))) = true from h
      simp only [Bool.and_eq_true] at h
      obtain ⟨h0, h1, h2, h3, h4, h5⟩ := h
      cases kws_nil h0; cases kws_nil h1
      obtain ⟨rfl, q1, q2, q3⟩ := O.fr h2
      obtain ⟨rfl, r1, r2, r3⟩ := O.fr h3
      exact valT (snd_tupRg2 O.calm q1 q2 r1 r2 (noStar_of h4) (noStar_of h5) (sE a O h4).1 (sE b O h5).1) fun _ => rfl
  | .app i x, X, g, W0, O, e, h => by
    cases e <;> first | exact Bool.noConfusion (show false = true from h) | skip
    rename_i fn vs kws pos
    cases fn <;> first | exact Bool.noConfusion (show false = true from h) | skip
    rename_i fo at_ apos
    cases fo <;> first | exact Bool.noConfusion (show false = true from h) | skip
    rename_i n p
    cases vs <;> first | exact Bool.noConfusion (show false = true from h) | skip
    rename_i e vs
    cases vs <;> first | exact Bool.noConfusion (show false = true from h) | skip
    have h := show (kws.isEmpty && (decide (at_ = "append") && (slotB g i n && ((apos.endLine == pos.line) && chE g x e)))) = true from h
    simp only [Bool.and_eq_true, decide_eq_true_eq] at h
    obtain ⟨h0, rfl, h2, h3, h4⟩ := h
    cases kws_nil h0
    obtain ⟨s1, s2, s3, s4⟩ := O.slot h2
    exact valT (snd_app s1 s2 s3 s4 h3 (noStar_of h4) (sE x O h4).1) fun _ => rfl
  | .ext i x, X, g, W0, O, e, h => by
    cases e <;> first | exact Bool.noConfusion (show false = true from h) | skip
    rename_i fn vs kws pos
    cases fn <;> first | exact Bool.noConfusion (show false = true from h) | skip
    rename_i fo at_ apos
    cases fo <;> first | exact Bool.noConfusion (show false = true from h) | skip
    rename_i n p
    cases vs <;> first | exact Bool.noConfusion (show false = true from h) | skip
    rename_i e vs
    cases vs <;> first | exact Bool.noConfusion (show false = true from h) | skip
    have h := show (kws.isEmpty && (decide (at_ = "extend") && (slotB g i n && ((apos.endLine == pos.line) && chE g x e)))) = true from h
    simp only [Bool.and_eq_true, decide_eq_true_eq] at h
    obtain ⟨h0, rfl, h2, h3, h4⟩ := h
    cases kws_nil h0
    obtain ⟨s1, s2, s3, s4⟩ := O.slot h2
    exact valT (snd_ext s1 s2 s3 s4 h3 (noStar_of h4) (sE x O h4).1) fun _ => rfl
  | .pop i x, X, g, W0, O, e, h => by
    cases e <;> first | exact Bool.noConfusion (show false = true from h) | skip
    rename_i fn vs kws pos
    cases fn <;> first | exact Bool.noConfusion (show false = true from h) | skip
    rename_i fo at_ apos
    cases fo <;> first | exact Bool.noConfusion (show false = true from h) | skip
    rename_i n p
    cases vs <;> first | exact Bool.noConfusion (show false = true from h) | skip
    rename_i e vs
    cases vs <;> first | exact Bool.noConfusion (show false = true from h) | skip
    have h := show (kws.isEmpty && (decide (at_ = "pop") && (slotB g i n && ((apos.endLine == pos.line) && chE g x e)))) = true from h
    simp only [Bool.and_eq_true, decide_eq_true_eq] at h
    obtain ⟨h0, rfl, h2, h3, h4⟩ := h
    cases kws_nil h0
    obtain ⟨s1, s2, s3, s4⟩ := O.slot h2
    exact valT (snd_pop s1 s2 s3 s4 h3 (noStar_of h4) (sE x O h4).1) fun _ => rfl
  | .index d x, X, g, W0, O, e, h => by
    cases e <;> first | exact Bool.noConfusion (show false = true from h) | (cases d <;> exact Bool.noConfusion (show false = true from h)) | skip
    rename_i fn vs kws pos
    cases d <;> first | exact Bool.noConfusion (show false = true from h) | skip
    rename_i i
    cases fn <;> first | exact Bool.noConfusion (show false = true from h) | skip
    rename_i fo at_ apos
    cases fo <;> first | exact Bool.noConfusion (show false = true from h) | skip
    rename_i n p
    cases vs <;> first | exact Bool.noConfusion (show false = true from h) | skip
    rename_i e vs
    cases vs <;> first | exact Bool.noConfusion (show false = true from h) | skip
    have h := show (kws.isEmpty && (decide (at_ = "index") && (slotB g i n && ((apos.endLine == pos.line) && chE g x e)))) = true from h
    simp only [Bool.and_eq_true, decide_eq_true_eq] at h
    obtain ⟨h0, rfl, h2, h3, h4⟩ := h
    cases kws_nil h0
    obtain ⟨s1, s2, s3, s4⟩ := O.slot h2
    exact valT (snd_index s1 s2 s3 s4 h3 (noStar_of h4) (sE x O h4).1) fun _ => rfl
  | .get2 d k x, X, g, W0, O, e, h => by
    cases e <;> first | exact Bool.noConfusion (show false = true from h) | (cases d <;> exact Bool.noConfusion (show false = true from h)) | skip
    rename_i fn vs kws pos
    cases d <;> first | exact Bool.noConfusion (show false = true from h) | skip
    rename_i i
    cases fn <;> first | exact Bool.noConfusion (show false = true from h) | skip
    rename_i fo at_ apos
    cases fo <;> first | exact Bool.noConfusion (show false = true from h) | skip
    rename_i n p
    cases vs <;> first | exact Bool.noConfusion (show false = true from h) | skip
    rename_i e1 vs
    cases vs <;> first | exact Bool.noConfusion (show false = true from h) | skip
    rename_i e2 vs
    cases vs <;> first | exact Bool.noConfusion (show false = true from h) | skip
    have h := show (kws.isEmpty && (decide (at_ = "get") && (slotB g i n && ((apos.endLine == pos.line) && (chE g k e1 && chE g x e2))))) = true from h
    simp only [Bool.and_eq_true, decide_eq_true_eq] at h
    obtain ⟨h0, rfl, h2, h3, h4, h5⟩ := h
    cases kws_nil h0
    obtain ⟨s1, s2, s3, s4⟩ := O.slot h2
    exact valT (snd_get2 (by have := O.hu; omega) s1 s2 s3 s4 h3 (noStar_of h4) (noStar_of h5) (sE k O h4).1 (sE x O h5).1) fun _ => rfl
  | .lc elt tg it cd own, X, g, W0, O, e, h => by
    cases e <;> first | exact Bool.noConfusion (show false = true from h) | skip
    rename_i el gens scope pos
    obtain ⟨t, iter, ifs, rfl, q⟩ := lc_parts (fun O _ h => (sE elt O h).1) (fun O _ h => (sE cd O h).2) (fun O _ _ h => sI it O h) O h
    have p := snd_lc (pos := pos) O.calm O.nd q.blk q.own q.it q.tg q.cd q.elt q.fold
    rw [ownP_snd] at p
    exact valT p fun _ => rfl
theorem sEs : ∀ (xs : Exs) {X : Cx} {g : Sg} {W0 : WX} (O : SgOk X g W0 Φ) {es : List Expr}, chEs g xs es = true → EsOk X (wOf X W0) Φ xs es
  | .nil, X, g, W0, O, es, h => by
    cases es <;> first | exact Bool.noConfusion (show false = true from h) | skip
    exact ⟨sndA_nil, sndR_nil, fun _ n => absurd rfl n, fun _ n => absurd rfl n, fun _ n => absurd rfl n, fun _ n => absurd rfl n, (fun _ _ e => nomatch e), (fun _ _ _ _ e => nomatch e)⟩
  | .cons x xs, X, g, W0, O, es, h => by
    cases es <;> first | exact Bool.noConfusion (show false = true from h) | skip
    rename_i e es
    have h := show (chE g x e && chEs g xs es) = true from h
    rw [Bool.and_eq_true] at h
    have P := sE x O h.1
    have E := sEs xs O h.2
    have ns := noStar_of h.1
    refine ⟨sndA_cons ns P.1 E.a, sndR_cons ns P.1 E.r, fun pos _ => ?_, fun pos _ => ?_, fun pos _ => ?_, fun pos _ => ?_, fun x' e' q1 q2 => ?_, fun x' y' e' f' q1 q2 => ?_⟩
    · cases es with
      | nil => cases xs with
        | nil => exact snd_and1 P.1
        | cons _ _ => exact Bool.noConfusion (show false = true from h.2)
      | cons f es => exact snd_and P.1 (E.and pos (by simp))
    · cases es with
      | nil => cases xs with
        | nil => exact snd_or1 P.1
        | cons _ _ => exact Bool.noConfusion (show false = true from h.2)
      | cons f es => exact snd_or P.1 (E.or pos (by simp))
    · cases es with
      | nil => cases xs with
        | nil => exact sndW_and1 P.2
        | cons _ _ => exact Bool.noConfusion (show false = true from h.2)
      | cons f es => exact sndW_and P.2 (E.wand pos (by simp))
    · cases es with
      | nil => cases xs with
        | nil => exact sndW_or1 P.2
        | cons _ _ => exact Bool.noConfusion (show false = true from h.2)
      | cons f es => exact sndW_or P.2 (E.wor pos (by simp))
    · cases q1; cases q2; exact P.1
    · cases q1; cases q2; exact ⟨P.1, E.one _ _ rfl rfl⟩
theorem sL : ∀ (l : Lks) {X : Cx} {g : Sg} {W0 : WX} (O : SgOk X g W0 Φ) {ops : List CmpOp} {es : List Expr}, chL g l ops es = true → (∀ pos, PCh X pos ops es (rdL X.K (wOf X W0) Φ l)) ∧ ∀ pos, PChT X pos ops es (rdLT X.K (wOf X W0) Φ l)
  | .one o x, X, g, W0, O, ops, es, h => by
    match ops, es, h with
    | [op], [e], h =>
      have h := show (decide (op = opC o) && chE g x e) = true from h
      simp only [Bool.and_eq_true, decide_eq_true_eq] at h
      obtain ⟨rfl, h1⟩ := h
      exact ⟨fun _ => sndL_one O.hu (sE x O h1).1, fun _ => sndLT_one O.hu (sE x O h1).1⟩
  | .more o x l, X, g, W0, O, ops, es, h => by
    match ops, es, h with
    | op :: p :: ops, e :: f :: es, h =>
      have h := show (decide (op = opC o) && (chE g x e && chL g l (p :: ops) (f :: es))) = true from h
      simp only [Bool.and_eq_true, decide_eq_true_eq] at h
      obtain ⟨rfl, h1, h2⟩ := h
      obtain ⟨q1, q2⟩ := sL l O h2
      exact ⟨fun pos => sndL_more O.hu (sE x O h1).1 (q1 pos), fun pos => sndLT_more O.hu (sE x O h1).1 (q2 pos)⟩
theorem sI : ∀ (it : It) {X : Cx} {g : Sg} {W0 : WX} (O : SgOk X g W0 Φ) {t e : Expr}, chI g it t e = true → PI X t e (rdI X.K (wOf X W0) Φ it)
  | .seq x, X, g, W0, O, t, e, h => sndI_seq (sE x O (show chE g x e = true from h)).1
  | .rng a b, X, g, W0, O, t, e, h => by
    cases e <;> first | exact Bool.noConfusion (show false = true from h) | skip
    rename_i fn vs kws pos
    cases fn <;> first | exact Bool.noConfusion (show false = true from h) | skip
    rename_i n p
    cases vs <;> first | exact Bool.noConfusion (show false = true from h) | skip
    rename_i e1 vs
    cases vs
    · have h := show (kws.isEmpty && (frB g n "range" && (isZero a && chE g b e1))) = true from h
      simp only [Bool.and_eq_true] at h
      obtain ⟨h0, h1, h2, h3⟩ := h
      cases kws_nil h0
      obtain ⟨rfl, q1, q2, q3⟩ := O.fr h1
      have P := (sE b O h3).1
      have ns := noStar_of h3
      rw [isZero_of h2]
      exact sndI_rng1 q1 q2 ns P
    · rename_i e2 vs
      cases vs <;> first | exact Bool.noConfusion (show false = true from h) | skip
      have h := show (kws.isEmpty && (frB g n "range" && (chE g a e1 && chE g b e2))) = true from h
      simp only [Bool.and_eq_true] at h
      obtain ⟨h0, h1, h2, h3⟩ := h
      cases kws_nil h0
      obtain ⟨rfl, q1, q2, q3⟩ := O.fr h1
      exact sndI_rng2 q1 q2 (noStar_of h2) (noStar_of h3) (sE a O h2).1 (sE b O h3).1
  | .rng3 _ _ _, X, g, W0, O, t, e, h => by cases t <;> cases e <;> exact Bool.noConfusion (show false = true from h)
  | .zip3 a b c, X, g, W0, O, t, e, h => by
    cases t <;> first | exact Bool.noConfusion (show false = true from h) | skip
    cases e <;> first | exact Bool.noConfusion (show false = true from h) | skip
    rename_i fn vs kws pos
    cases fn <;> first | exact Bool.noConfusion (show false = true from h) | skip
    rename_i n p
    cases vs <;> first | exact Bool.noConfusion (show false = true from h) | skip
    rename_i e1 vs
    cases vs <;> first | exact Bool.noConfusion (show false = true from h) | skip
    rename_i e2 vs
    cases vs <;> first | exact Bool.noConfusion (show false = true from h) | skip
    rename_i e3 vs
    cases vs <;> first | exact Bool.noConfusion (show false = true from h) | skip
    have h := show (kws.isEmpty && (frB g n "zip" && (chE g a e1 && (chE g b e2 && chE g c e3)))) = true from h
    simp only [Bool.and_eq_true] at h
    obtain ⟨h0, h1, h2, h3, h4⟩ := h
    cases kws_nil h0
    obtain ⟨rfl, q1, q2, q3⟩ := O.fr h1
    exact sndI_zip3 q1 q2 (noStar_of h2) (noStar_of h3) (noStar_of h4) (sE a O h2).1 (sE b O h3).1 (sE c O h4).1
  | .enum x, X, g, W0, O, t, e, h => by
    cases t <;> first | exact Bool.noConfusion (show false = true from h) | skip
    cases e <;> first | exact Bool.noConfusion (show false = true from h) | skip
    rename_i fn vs kws pos
    cases fn <;> first | exact Bool.noConfusion (show false = true from h) | skip
    rename_i n p
    cases vs <;> first | exact Bool.noConfusion (show false = true from h) | skip
    rename_i e1 vs
    cases vs <;> first | exact Bool.noConfusion (show false = true from h) | skip
    have h := show (kws.isEmpty && (frB g n "enumerate" && chE g x e1)) = true from h
    simp only [Bool.and_eq_true] at h
    obtain ⟨h0, h1, h2⟩ := h
    cases kws_nil h0
    obtain ⟨rfl, q1, q2, q3⟩ := O.fr h1
    exact sndI_enum q1 q2 (noStar_of h2) (sE x O h2).1
  | .zip a b, X, g, W0, O, t, e, h => by
    cases t <;> first | exact Bool.noConfusion (show false = true from h) | skip
    cases e <;> first | exact Bool.noConfusion (show false = true from h) | skip
    rename_i fn vs kws pos
    cases fn <;> first | exact Bool.noConfusion (show false = true from h) | skip
    rename_i n p
    cases vs <;> first | exact Bool.noConfusion (show false = true from h) | skip
    rename_i e1 vs
    cases vs <;> first | exact Bool.noConfusion (show false = true from h) | skip
    rename_i e2 vs
    cases vs <;> first | exact Bool.noConfusion (show false = true from h) | skip
    have h := show (kws.isEmpty && (frB g n "zip" && (chE g a e1 && chE g b e2))) = true from h
    simp only [Bool.and_eq_true] at h
    obtain ⟨h0, h1, h2, h3⟩ := h
    cases kws_nil h0
    obtain ⟨rfl, q1, q2, q3⟩ := O.fr h1
    exact sndI_zip q1 q2 (noStar_of h2) (noStar_of h3) (sE a O h2).1 (sE b O h3).1
end
end
end Sn

namespace Hx
open PySem PySem.Spec PyProof.Rows HotX
section
variable {prog : Program} {w : World} {A : Around} {E : Value → Shared → Prop} {s : Shared}
/-- a StopIteration is made and raised here -/
theorem stop_raised {α : Type} {it x1 : Addr} {o : Obj} {vs : Array Value} {Q : α → Shared → Prop} (hot : HotAt A x1 s.heap) (hx1 : it ≠ x1) (ho : s.heap.get? it = some o) (hd : o.data = .fields vs) (h0 : 0 < vs.size)
    (hE : ∀ h' e, Heap.ExtBut it s.heap h' → (∃ o, h'.get? e = some o ∧ o.cls = .type "StopIteration") → E (.ref e) { s with heap := h' }) :
    wpAny (model prog w) A (do setField (.ref it) 0 .none; let e ← newExc (.type "StopIteration") []; raiseNew e : Sem α) Q E s := by
  obtain ⟨hh, o1, v1, g1, d1, c1⟩ := hot
  refine wpAny_bind (wpAny_setField ho hd h0 ?_)
  have k1 : ∀ b u, b ≠ it → s.heap.get? b = some u → (s.heap.update it (Obj.mapFields (·.setIfInBounds 0 .none))).get? b = some u := fun b u hb e => by
    rw [Heap.get?_update_other _ _ (fun z => hb z.symm)]; exact e
  have g2 := k1 _ _ (fun z => hx1 z.symm) g1
  refine wpAny_bind ?_
  simp only [newExc, newTuple]
  refine wpAny_bind (wpAny_newObj_type ?_ (by size_fits))
  refine wpAny_bind (m := firstArgMember _ _) (wpAny_of_eq (a := Value.none) (by first | rfl | (simp only [firstArgMember]; rfl)) ?_)
  refine wpAny_newObj_type ?_ (by size_fits)
  have g3 := Heap.get?_push_of_some { cls := .type "tuple", data := .seq ([] : List Value).toArray } g2
  refine raiseNew_hot ⟨hh, o1, v1, Heap.get?_push_of_some _ g3, d1, c1⟩ (Nat.ne_of_lt (Heap.lt_size g3)) (Heap.get?_push_size _ rfl) rfl (by first | (simp; done) | (simp; omega) | (simp only [Array.size_append]; simp; omega)) ?_
  refine hE _ _ (fun b u hb e => ?_) ⟨_, Heap.get?_update_self _ (Heap.get?_push_size _ rfl) rfl, rfl⟩
  have q := Heap.get?_push_of_some { cls := .type "tuple", data := .seq ([] : List Value).toArray } (k1 b u hb e)
  rw [Heap.get?_update_other _ _ (Nat.ne_of_gt (Heap.lt_size q))]
  exact Heap.get?_push_of_some _ q
end
end Hx

namespace Hx
open PySem PySem.Spec PyProof.Rows HotX
section
variable {prog : Program} {w : World} {A : Around} {E : Value → Shared → Prop} {s : Shared}
theorem list_end {it l x1 : Addr} {i : Nat} {items : Array Value} {Q : Value → Shared → Prop} (hot : HotAt A x1 s.heap) (hx1 : it ≠ x1)
    (hit : s.heap.IsListIter it l i) (hl : s.heap.IsList l items) (hx : items[i]? = none)
    (hE : ∀ h' e, Heap.ExtBut it s.heap h' → (∃ o, h'.get? e = some o ∧ o.cls = .type "StopIteration") → E (.ref e) { s with heap := h' }) :
    wpAny (model prog w) A (Builtin.SmallTypes.nextOf (.ref it)) Q E s := by
  obtain ⟨o, ho, hc, hd⟩ := id hit
  obtain ⟨ol, hol, _, nl, hdl⟩ := hl
  unfold Builtin.SmallTypes.nextOf
  refine wpAny_bind (wpAny_callSpecial?_slot (name := Str.ofString "__next__") hit.typeIs slot_listiter_next (wpAny_call_entry slot_listiter_next hit.typeIs entry_listiter_next ?_ (args_listiter_next _)))
  show wpAny _ _ (do let f0 ← field (.ref it) 0; _) _ _ s
  refine wpAny_bind (wpAny_field ho hd (x := .ref l) rfl ?_)
  refine (congrArg (fun t => wpAny (model prog w) A.in1 t _ _ s) (if_neg (by exact Bool.false_ne_true))).mpr ?_
  refine wpAny_bind (wpAny_field ho hd (x := .int i 0) rfl (wpAny_bind (wpAny_seqItems hol hdl ?_)))
  simp only [Int.toNat_natCast, hx]
  refine wpAny_bind (wpAny_rule ?_)
  exact stop_raised (A := A.in1) hot hx1 ho hd (by simp) hE
/-- a tuple's iterator at its end -/
theorem tup_end {it t x1 : Addr} {i : Nat} {items : Array Value} {Q : Option Value → Shared → Prop} (hot : HotAt A x1 s.heap) (hx1 : it ≠ x1)
    (hit : IsTupIter s.heap it t i) (ht : IsTup s.heap t items) (hx : items[i]? = none)
    (hQ : ∀ h', Heap.ExtBut it s.heap h' → Q none { s with heap := h' }) : wpAny (model prog w) A (pyNext (.ref it)) Q E s := by
  obtain ⟨o, ho, hc, hd⟩ := id hit
  obtain ⟨ol, hol, _, nl, hdl⟩ := ht
  unfold pyNext
  refine wpAny_bind (wpAny_attempt (wpAny_callSpecial?_slot (name := Str.ofString "__next__") hit.typeIs slot_tupleiter_next (wpAny_call_entry slot_tupleiter_next hit.typeIs entry_tupleiter_next ?_ (args_tupleiter_next _))))
  show wpAny _ _ (do let f0 ← field (.ref it) 0; _) _ _ s
  refine wpAny_bind (wpAny_field ho hd (x := .ref t) rfl ?_)
  refine (congrArg (fun z => wpAny (model prog w) A.in1 z _ _ s) (if_neg (by exact Bool.false_ne_true))).mpr ?_
  refine wpAny_bind (wpAny_field ho hd (x := .int i 0) rfl (wpAny_bind (wpAny_seqItems hol hdl ?_)))
  simp only [Int.toNat_natCast, hx]
  refine wpAny_bind (wpAny_rule ?_)
  refine stop_raised (A := A.in1) hot hx1 ho hd (by simp) fun h' e k ⟨oe, he, hce⟩ => ?_
  exact wpAny_bind (wpAny_isInstance (T := "StopIteration") (b := true) ⟨oe, he, hce⟩ isSubtype_stop (wpAny_pure (hQ h' k)))
theorem unpack_hot {t x1 : Addr} {items : Array Value} {targets : List (Bool × (Value → Sem Unit))} {Q : Unit → Shared → Prop} (hot : HotAt A x1 s.heap) (ht : IsTup s.heap t items)
    (hn : targets.length = items.size) (hstar : targets.findIdx? (·.1) = none)
    (h : ∀ h', Heap.ExtBut s.heap.objs.size s.heap h' → wpAny (model prog w) A (assignInOrder (targets.map (·.2)) items.toList) Q E { s with heap := h' }) :
    wpAny (model prog w) A (unpack (.ref t) targets) Q E s := by
  obtain ⟨hh, o1, v1, g1, d1, c1⟩ := hot
  have hlt : t ≠ s.heap.objs.size := by obtain ⟨o, ho, _⟩ := ht; exact Nat.ne_of_lt (Heap.lt_size ho)
  have hl1 : x1 ≠ s.heap.objs.size := Nat.ne_of_lt (Heap.lt_size g1)
  unfold unpack
  rw [hn, hstar]
  refine wpAny_bind (wpAny_holding ?_)
  unfold unpackItems notIterableAtAll
  refine wpAny_bind (wpAny_bind (wpAny_specialOf ht.typeIs slot_tuple_iter.lookup (wpAny_pure ?_)))
  simp only [Bool.false_eq_true, if_false]
  refine wpAny_bind (wpAny_holding (iter_tuple ht (wpAny_bind (wpAny_holding (draw_tuple hlt items.size 0 _ _ ⟨_, Heap.get?_push_size _ rfl, rfl, rfl⟩ (ht.push _) (by omega) fun h₁ i₁ k₁ => ?_)))))
  rw [show List.take items.size (List.drop 0 items.toList) = items.toList from by rw [List.drop_zero]; exact List.take_of_length_le (by simp), if_neg (by simp)]
  have g2 := k₁.extBut _ _ hl1 (Heap.get?_push_of_some { cls := .type "tuple_iterator", data := .fields #[.ref t, .int 0 0] } g1)
  refine wpAny_bind (wpAny_holding (tup_end ⟨hh, o1, v1, g2, d1, c1⟩ (fun z => hl1 z.symm) i₁ ((ht.push _).extBut k₁.extBut hlt) (by simp) fun h₂ k₂ => ?_))
  simp only [Option.isSome_none, Bool.false_eq_true, if_false]
  exact wpAny_pure (h h₂ fun b o hb e => k₂ b o hb (k₁.extBut b o hb (Heap.get?_push_of_some _ e)))
theorem assign_hot {env : Env} {elts : List Expr} {k : Nat} {pos : Pos} {t x1 : Addr} {items : Array Value} {Q : Unit → Shared → Prop} (hot : HotAt A x1 s.heap) (ht : IsTup s.heap t items)
    (hn : (assignEach elts env).length = items.size) (hstar : (assignEach elts env).findIdx? (·.1) = none)
    (h : ∀ h', Heap.ExtBut s.heap.objs.size s.heap h' → wpAny (model prog w) A (assignInOrder ((assignEach elts env).map (·.2)) items.toList) Q E { s with heap := h' }) :
    wpAny (model prog w) A (assign (.Tuple elts k pos) env (.ref t)) Q E s := by
  rw [assign_Tuple]
  exact wpAny_bind (wpAny_standAt (unpack_hot hot ht hn hstar h))
end
end Hx

namespace Hx
open PySem PySem.Spec PyProof.Rows HotX
section
variable {prog : Program} {w : World} {A : Around} {E : Value → Shared → Prop} {s : Shared}
theorem zip_end {z TI TO i1 i2 l1 l2 x1 : Addr} {k1 k2 : Nat} {xs ys : Array Value} {a b : Value} {Q : Option Value → Shared → Prop} (hot : HotAt A x1 s.heap) (n1 : z ≠ x1) (n2 : TO ≠ x1) (n3 : i1 ≠ x1) (n4 : i2 ≠ x1) (D : ZipApart z TI TO i1 i2 l1 l2)
    (hz : IsZip s.heap z TI TO .none) (hTI : IsPair s.heap TI (.ref i1) (.ref i2)) (hTO : IsPair s.heap TO a b)
    (h1 : s.heap.IsListIter i1 l1 k1) (h2 : s.heap.IsListIter i2 l2 k2) (hl1 : s.heap.IsList l1 xs) (hl2 : s.heap.IsList l2 ys) (hend : xs[k1]? = none ∨ ys[k2]? = none)
    (hQ : ∀ h', (∀ c o, c ≠ z → c ≠ TO → c ≠ i1 → c ≠ i2 → s.heap.get? c = some o → h'.get? c = some o) → Q none { s with heap := h' }) : wpAny (model prog w) A (pyNext (.ref z)) Q E s := by
  obtain ⟨hh, o1, v1, g1, d1, c1⟩ := hot
  have hT : s.TypeIs (.ref z) "zip" := ⟨_, hz, rfl⟩
  have stop : ∀ (h' : Heap) (e : Addr), (∀ c o, c ≠ z → c ≠ TO → c ≠ i1 → c ≠ i2 → s.heap.get? c = some o → h'.get? c = some o) → (∃ o, h'.get? e = some o ∧ o.cls = .type "StopIteration") →
      wpAny (model prog w) A (do if ← isInstance (.ref e) (.type "StopIteration") then pure none else throw (.ref e)) Q E { s with heap := h' } := fun h' e k ⟨oe, he, hce⟩ =>
    wpAny_bind (wpAny_isInstance (T := "StopIteration") (b := true) ⟨oe, he, hce⟩ isSubtype_stop (wpAny_pure (hQ h' k)))
  unfold pyNext
  refine wpAny_bind (wpAny_attempt (wpAny_callSpecial?_slot (name := Str.ofString "__next__") hT F.slot_zip_next (wpAny_call_entry F.slot_zip_next hT F.entry_zip_next ?_ (F.args_zip_next_1 _))))
  show wpAny _ _ (do let f2 ← field (.ref z) 2; _) _ _ _
  refine wpAny_bind (wpAny_field hz rfl (x := .bool false) rfl ?_)
  show wpAny _ _ (do let f3 ← field (.ref z) 3; _) _ _ _
  refine wpAny_bind (wpAny_field hz rfl (x := .ref TI) rfl (wpAny_bind (wpAny_seqItems hTI rfl ?_)))
  show wpAny _ _ (do let fr ← Builtin.SmallTypes.ownedTupleIsFree (.ref z); _) _ _ _
  refine wpAny_bind ?_
  unfold Builtin.SmallTypes.ownedTupleIsFree
  refine wpAny_bind (wpAny_field hz rfl (x := .none) rfl (wpAny_pure ?_))
  simp only [if_true]
  refine wpAny_bind (wpAny_rule (wpAny_bind (wpAny_field hz rfl (x := .ref TO) rfl (wpAny_bind (wpAny_setField_rec hz (by simp) fun ha za ka => ?_)))))
  have za : IsZip ha z TI TO .ellipsis := za
  refine wpAny_bind ?_
  simp only [List.zipIdx_cons, List.zipIdx_nil, List.forIn_cons, List.forIn_nil]
  refine wpAny_bind (wpAny_bind (wpAny_onRaise ?_))
  show wpAny _ _ (do let n1 ← Builtin.SmallTypes.nextOf (.ref i1); _) _ _ _
  have ga := ka.extBut _ _ (fun q => n1 q.symm) g1
  have pre1 := h1.extBut ka.extBut D.i1z
  have pre2 := hl1.extBut ka.extBut D.l1z
  cases hx : xs[k1]? with
  | none =>
    refine wpAny_bind (list_end (A := A.in1) ⟨hh, o1, v1, ga, d1, c1⟩ n3 pre1 pre2 hx fun hb e kb ⟨oe, he, hce⟩ => ?_)
    have zb : IsZip hb z TI TO .ellipsis := kb _ _ D.i1z.symm za
    have ez : e ≠ z := fun q => by subst q; rw [zb] at he; cases he; simp at hce
    exact wpAny_setField_rec zb (by simp) fun hc _ kc => stop hc e (fun c o c1 _ c3 _ q => kc.extBut _ _ c1 (kb _ _ c3 (ka.extBut _ _ c1 q))) ⟨oe, kc.extBut _ _ ez he, hce⟩
  | some x =>
    have hy : ys[k2]? = none := hend.resolve_left (by rw [hx]; simp)
    refine wpAny_bind (wpAny_nextOf_list_item pre1 pre2 hx fun hb ib kb => wpAny_pure ?_)
    have TOb : IsPair hb TO a b := kb.extBut _ _ D.TOi1 (ka.extBut _ _ D.TOz hTO)
    refine wpAny_bind (wpAny_seqItems TOb rfl (wpAny_bind (wpAny_updateSeq_pair TOb fun hc TOc kc => wpAny_bind (wpAny_letGo (wpAny_pure ?_)))))
    refine wpAny_bind (wpAny_bind (wpAny_onRaise ?_))
    show wpAny _ _ (do let n2 ← Builtin.SmallTypes.nextOf (.ref i2); _) _ _ _
    have gc := kc.extBut _ _ (fun q => n2 q.symm) (kb.extBut _ _ (fun q => n3 q.symm) ga)
    refine wpAny_bind (list_end (A := A.in1) ⟨hh, o1, v1, gc, d1, c1⟩ n4 (((h2.extBut ka.extBut D.i2z).extBut kb.extBut D.i12.symm).extBut kc.extBut D.TOi2.symm)
      (((hl2.extBut ka.extBut D.l2z).extBut kb.extBut D.l2i1).extBut kc.extBut D.l2TO) hy fun hd e kd ⟨oe, he, hce⟩ => ?_)
    have zd : IsZip hd z TI TO .ellipsis := kd _ _ D.i2z.symm (kc.extBut _ _ D.TOz.symm (kb.extBut _ _ D.i1z.symm za))
    have ez : e ≠ z := fun q => by subst q; rw [zd] at he; cases he; simp at hce
    exact wpAny_setField_rec zd (by simp) fun hf _ kf => stop hf e (fun c o c1 c2 c3 c4 q => kf.extBut _ _ c1 (kd _ _ c4 (kc.extBut _ _ c2 (kb.extBut _ _ c3 (ka.extBut _ _ c1 q))))) ⟨oe, kf.extBut _ _ ez he, hce⟩
end
end Hx

namespace Hx
open PySem PySem.Spec PyProof.Rows HotX L2
/-- the exception p is the handled one, and every state of X bears it -/
structure Bears (X : Cx) (p : Addr × Obj) : Prop where
  h1 : L2H.Hot1 X.A p
  pn : p ∈ X.pn
theorem Bears.at {X : Cx} {p : Addr × Obj} {pins : List (Addr × Obj)} {σ : L2.St} {H : Hp} {s : Shared} (c : Bears X p) (I : Inv X pins σ H s) : HotAt X.A p.1 s.heap := by
  obtain ⟨⟨hh, v1, e1, c1⟩, hp⟩ := c
  exact ⟨hh, p.2, v1, (I.pin p (List.mem_append_left _ hp)).1, e1, c1⟩
structure TurnQ (P : Program) (w : World) (K : PySem.W.Frag) (tg : Expr) (J : It) (fp : List Addr) (it : Addr) (tn : Nat → Heap → Prop) : Prop where
  obj : ∀ i h, tn i h → ∀ b ∈ fp, ∃ o, h.get? b = some o ∧ ∀ v, o.data ≠ .cell v
  keep : ∀ i h h', tn i h → (∀ b ∈ fp, ∀ o, h.get? b = some o → h'.get? b = some o) → tn i h'
  item : ∀ (X : Cx), X.prog = P → X.w = w → X.K = K → ∀ (i : Nat) (pins : List (Addr × Obj)) (s : Shared) (σ : L2.St) (H : Hp) (E : Value → Shared → Prop), Inv X pins σ H s → (∀ b ∈ fp, FpOk X pins H b) → tn i s.heap → J.go i H →
    wpAny (model P w) X.A (pyNext (.ref it)) (fun r s1 => ∃ u, r = some u ∧
      wpAny (model P w) X.A (letOwnedTupleGo tg (.ref it) u) (fun _ s2 => ∃ x H', Inv X pins σ H' s2 ∧ RelV x u ∧ J.yld i H x H' ∧ tn (i + 1) s2.heap ∧ ∀ b ∈ fp, H' b = none) E s1) E s
  done : ∀ (X : Cx) (p : Addr × Obj), X.prog = P → X.w = w → X.K = K → Bears X p → ∀ (i : Nat) (pins : List (Addr × Obj)) (s : Shared) (σ : L2.St) (H : Hp) (E : Value → Shared → Prop), Inv X pins σ H s → (∀ b ∈ fp, FpOk X pins H b) → tn i s.heap → J.stop i H →
    wpAny (model P w) X.A (pyNext (.ref it)) (fun r s1 => r = none ∧ Inv X pins σ H s1) E s
  self : ∀ (A : Around) (i : Nat) (s : Shared) (Q : Value → Shared → Prop) (E : Value → Shared → Prop), tn i s.heap → Q (.ref it) s → wpAny (model P w) A (pyIter (.ref it)) Q E s
theorem five {c z TI TO i1 i2 : Addr} (h : c ∈ [z, TI, TO, i1, i2]) : c = z ∨ c = TI ∨ c = TO ∨ c = i1 ∨ c = i2 := by simpa using h
theorem turn_zipQ {P : Program} {w : World} {K : PySem.W.Frag} {elts : List Expr} {kk : Nat} {tpos : Pos} {a b z TI TO i1 i2 : Addr} (D : ZipApart z TI TO i1 i2 a b) :
    TurnQ P w K (.Tuple elts kk tpos) (Itz K a b) [z, TI, TO, i1, i2] z (fun i h => IsZip h z TI TO .none ∧ IsPair h TI (.ref i1) (.ref i2) ∧ (∃ x y, IsPair h TO x y) ∧ h.IsListIter i1 a i ∧ h.IsListIter i2 b i) := by
  have T := turn_zip (P := P) (w := w) (K := K) (elts := elts) (kk := kk) (tpos := tpos) D
  refine ⟨T.obj, T.keep, ?_, ?_, T.self⟩
  · rintro X rfl rfl rfl i pins s σ H E I hf ⟨hz, hTI, ⟨x0, y0, hTO⟩, h1, h2⟩ ⟨xs, ys, x, y, hqx, hqy, hx, hy⟩
    obtain ⟨its, rv, p, _⟩ := I.list hqx
    obtain ⟨its2, rv2, p2, _⟩ := I.list hqy
    obtain ⟨u, hu, ru⟩ := rv.get hx
    obtain ⟨u2, hu2, ru2⟩ := rv2.get hy
    have lz := Heap.lt_size hz
    have lt : ∀ c ∈ [z, TI, TO, i1, i2], c < s.heap.objs.size := fun c hc => by
      obtain ⟨o, e, _⟩ := T.obj i s.heap ⟨hz, hTI, ⟨x0, y0, hTO⟩, h1, h2⟩ c hc
      exact Heap.lt_size e
    refine wpAny_pyNext_zip_item D hz hTI hTO h1 h2 p.isList p2.isList (x := u) (y := u2) (by simpa using hu) (by simpa using hu2) fun ha za TOa h1a h2a Ta sza ka => ⟨_, rfl, wpAny_letOwnedTupleGo_zip (s := { s with heap := ha }) za fun hb zb kb => ?_⟩
    have Tb : hb.get? s.heap.objs.size = some { cls := .type "tuple", data := .seq #[u, u2] } := (kb.2 _ (Nat.ne_of_gt lz)).trans Ta
    have new : ObjOk X.prog X.w (upd H s.heap.objs.size (.tup [x, y])) hb s.heap.objs.size (.tup [x, y]) := ⟨by show 2 ≤ sizeLine; decide, [u, u2], .cons ru (.cons ru2 .nil), ⟨_, Tb, rfl, _, rfl⟩⟩
    have kk : ∀ c o, c ∉ [z, TI, TO, i1, i2] → s.heap.get? c = some o → hb.get? c = some o := fun c o hc q => by
      simp only [List.mem_cons, List.not_mem_nil, or_false, not_or] at hc
      exact (kb.2 c hc.1).trans (ka c o hc.1 hc.2.2.1 hc.2.2.2.1 hc.2.2.2.2 q)
    refine ⟨.ref s.heap.objs.size, _, I.turnedNew (t' := s.toks) (ch := [z, TI, TO, i1, i2]) kk hf (Nat.le_refl _) new, rfl,
      ⟨_, x, y, rfl, I.hok.fresh (Nat.le_refl _), rfl, fun l hl => by rw [I.list_inj hl hqx]; exact hx, fun l hl => by rw [I.list_inj hl hqy]; exact hy⟩,
      ⟨zb, (kb.2 _ D.TIz).trans (ka _ _ D.TIz D.TITO D.TIi1 D.TIi2 hTI), ⟨u, u2, (kb.2 _ D.TOz).trans TOa⟩, h1a.at fun o q => (kb.2 _ D.i1z).trans q, h2a.at fun o q => (kb.2 _ D.i2z).trans q⟩, fun c hc => ?_⟩
    rw [upd_ne (Nat.ne_of_lt (lt c hc))]
    exact (hf c hc).1
  · rintro X p rfl rfl rfl hb i pins s σ H E I hf ⟨hz, hTI, ⟨x0, y0, hTO⟩, h1, h2⟩ ⟨xs, ys, hqx, hqy, hend⟩
    obtain ⟨its, rv, q1, _⟩ := I.list hqx
    obtain ⟨its2, rv2, q2, _⟩ := I.list hqy
    have l1 := rv.length
    have l2 := rv2.length
    have he : its.toArray[i]? = none ∨ its2.toArray[i]? = none := hend.imp (fun q => by simp; omega) (fun q => by simp; omega)
    have ap : ∀ c ∈ [z, TI, TO, i1, i2], c ≠ p.1 := fun c hc q => (hf c hc).2.2.2.2.2 p (List.mem_append_left _ hb.pn) q.symm
    refine zip_end (hb.at I) (ap _ (by simp)) (ap _ (by simp)) (ap _ (by simp)) (ap _ (by simp)) D hz hTI hTO h1 h2 q1.isList q2.isList he fun h' k => ⟨rfl, I.turnedL (t' := s.toks) (ch := [z, TI, TO, i1, i2]) (fun c o hc q => ?_) hf⟩
    simp only [List.mem_cons, List.not_mem_nil, or_false, not_or] at hc
    exact k c o hc.1 hc.2.2.1 hc.2.2.2.1 hc.2.2.2.2 q
def PIEQ (X : Cx) (pins : List (Addr × Obj)) (σ : L2.St) (tg : Expr) (R : It → Hp → Prop) (itv : Value) (s2 : Shared) : Prop :=
  ∃ (it : Addr) (fp : List Addr) (tn : Nat → Heap → Prop) (J : It) (H' : Hp), itv = .ref it ∧ Inv X pins σ H' s2 ∧ TurnQ X.prog X.w X.K tg J fp it tn ∧ tn 0 s2.heap ∧ (∀ b ∈ fp, FpOk X pins H' b) ∧ R J H'
structure PIQ (X : Cx) (tg iter : Expr) (wi : TI) : Prop where
  run : ∀ (pins : List (Addr × Obj)) (s : Shared) (σ : L2.St) (H : Hp) (R : It → Hp → Prop), Inv X pins σ H s → wi σ H R →
    wpAny (model X.prog X.w) X.A (eval iter X.env) (fun v s1 => wpAny (model X.prog X.w) X.A (pyIter v) (PIEQ X pins σ tg R) X.xe s1) X.xe s
def iZipQ (K : PySem.W.Frag) (ta : TA) : TI := fun σ H R => ta σ H fun vs H1 => ∃ a b xs ys, vs = [.ref a, .ref b] ∧ SqL K H1 a xs ∧ SqL K H1 b ys ∧ R (Itz K a b) H1
theorem pi_zipQ {X : Cx} {e e2 : Expr} {ta : TA} {p pos tpos : Pos} {elts : List Expr} {kk : Nat} (hg : Gl X "zip") (hm : X.mg "zip" = none) (ha : PA X [e, e2] ta)
    (hs : starEach [e, e2] X.env = (false, eval e X.env) :: starEach [e2] X.env) (hpl : (backTo pos (starEach [e2] X.env)).any (·.1) = false) :
    PIQ X (.Tuple elts kk tpos) (.Call (.Name "zip" p) [e, e2] [] pos) (iZipQ X.K ta) := by
  refine ⟨fun pins s σ H R I h => Call_ (ld_blt I hg hm PyProof.Rows.boot_zip (PyProof.Rows.callWith_type1 (thn (ha.run pos pins s σ H _ I h) fun us s1 hu => ?_) hs hpl))⟩
  obtain ⟨vs, H1, I1, r1, a, b, xs, ys, rfl, hqx, hqy, q⟩ := hu
  cases r1 with
  | cons r rr =>
    cases rr with
    | cons r' rr =>
      cases rr
      cases r
      cases r'
      obtain ⟨its, rv, p1, _⟩ := I1.list hqx
      obtain ⟨its2, rv2, p2, _⟩ := I1.list hqy
      refine call_zip_2 p1.isList p2.isList fun h' hz hTI hTO h1 h2 hsz hk => wpAny_pyIter_zip hz ?_
      refine ⟨s1.heap.objs.size + 4, [s1.heap.objs.size + 4, s1.heap.objs.size + 2, s1.heap.objs.size + 3, s1.heap.objs.size, s1.heap.objs.size + 1], _, _, H1, rfl, I1.kept (t' := s1.toks) hk, turn_zipQ (PySem.W.ktu_apart s1.heap.objs.size a b p1.lt p2.lt), ⟨hz, hTI, ⟨_, _, hTO⟩, h1, h2⟩, fun c hc => ?_, q⟩
      have hle : s1.heap.objs.size ≤ c := by rcases five hc with z | z | z | z | z <;> rw [z] <;> first | exact Nat.le_add_right _ _ | exact Nat.le_refl _
      exact I1.fpOk hle (I1.hok.fresh hle)
/-- (a, b, ..) = a tuple -/
theorem pg_tupQ {X : Cx} {pos : Pos} {p : Addr × Obj} {es : List Expr} {k : Nat} {t : TGs} {n : Nat} (hc : Bears X p) (h : PGs X es t)
    (hn : (assignEach es X.env).length = n) (hst : (assignEach es X.env).findIdx? (·.1) = none) : PG X (.Tuple es k pos) (gTup X.K n t) := by
  refine ⟨fun pins s σ H v u Q I r ⟨a, xs, e1, hq, hl, hw⟩ => ?_⟩
  subst e1
  cases r
  obtain ⟨its, rv, ht, hz⟩ := I.tuple hq
  refine assign_hot (hc.at I) ht (by simp [hn, ← hl, rv.length]) hst fun h' hx => ?_
  exact h.run pins _ σ H xs _ Q (I.kept (t' := s.toks) fun b o e => hx b o (Nat.ne_of_lt (Heap.lt_size e)) e) (by simpa using rv) hw
end Hx

namespace Hx
open PySem PySem.Spec PyProof.Rows HotX L2
/-- the context of a comprehension's block there -/
abbrev blkQ (X : Cx) (p : Addr × Obj) (s : Shared) (H : Hp) (scope : Scope) (cenv : PySem.Env) (fp : List Addr) : Cx := { X.blk s H scope cenv fp with pn := [p] }
theorem Bears.blk {X : Cx} {p : Addr × Obj} (h : Bears X p) {s : Shared} {H : Hp} {scope : Scope} {cenv : PySem.Env} {fp : List Addr} : Bears (blkQ X p s H scope cenv fp) p := ⟨h.h1, List.mem_cons_self⟩
theorem Inv.toQ {X : Cx} {p : Addr × Obj} {s0 s : Shared} {H0 H : Hp} {scope : Scope} {cenv : PySem.Env} {fp : List Addr} {σ : L2.St} (I : Inv (X.blk s0 H0 scope cenv fp) [] σ H s)
    (hp : s.heap.get? p.1 = some p.2 ∧ H p.1 = none ∧ p.1 ≠ cenv.locals ∧ p.1 ∉ frs X.stack ∧ ∀ v, p.2.data ≠ .cell v) : Inv (blkQ X p s0 H0 scope cenv fp) [] σ H s :=
  ⟨⟨I.ok.mod, I.ok.kind, I.ok.glob, I.ok.blt, I.ok.above, I.ok.inj, I.ok.has, I.ok.cab, I.ok.hd, I.ok.frames, I.ok.stk, I.ok.exf, I.ok.bs, I.ok.bsz, I.ok.noex, I.ok.exfs, I.ok.funs, I.ok.frf⟩,
    I.os, I.bare, I.base, I.loc, I.cell, I.free, I.freeC, fun q hq => by
      have e : q = p := by simpa using (show q ∈ [p] ++ ([] : List (Addr × Obj)) from hq)
      rw [e]; exact hp, I.hok, I.len⟩
section
variable {X : Cx} {p : Addr × Obj}
theorem lc_coreQ {pins : List (Addr × Obj)} {s : Shared} {σ : L2.St} {H : Hp} {Q : VK} {elt tg iter : Expr} {ifs : List Expr} {scope : Scope} {own : List (Str × Nat)} {pos pos' : Pos} {wi : TI} {g : TG} {tt : TT} {te : TE} {use : Option (Value → Sem Unit)} {Qf : Value → Shared → Prop}
    (hb : Bears X p) (hN : X.N.Nodup) (I : Inv X pins σ H s) (hi : PIQ X tg iter wi) (ok : BlkOk X.N X.env.scope scope own)
    (hg : ∀ s H C cl fp, PG (blkQ X p s H scope (compEnvC scope cl C X.env) fp) tg g) (ht : ∀ s H C cl fp, PTs (blkQ X p s H scope (compEnvC scope cl C X.env) fp) ifs tt)
    (he : ∀ s H C cl fp, PE (blkQ X p s H scope (compEnvC scope cl C X.env) fp) elt te) (hs : ∀ x, foldedSetIterable iter X.env x = pure x)
    (h : tLc wi g tt te (own.map (·.2)) σ H Q)
    (hRR : ∀ D C s' m H', Inv X pins σ H' s' → Q (.ref D) H' → s'.heap.Ns C m → FpOk X pins H' C → compPost (model X.prog X.w) X.A X.xe use Qf (.ref D) C (.ok .next) s') :
    wpAny (model X.prog X.w) X.A (comprehension (.ListComp elt [⟨tg, iter, ifs, 0⟩] scope pos) scope X.env pos' (newList []) false (eval iter X.env) use) Qf X.xe s := by
  have hfree : ∀ y ∈ scope.names, y.2 = .free → ∃ c, X.env.cells.lookup y.1 = some c := fun y hy e => I.ok.has _ ((ok.free y hy e).imp id id)
  refine wpAny_comprehension_free (use := use) rfl hs (closure_ok hfree) ok.kind (fun y hy e => by rw [ok.uniq y hy, e]) (thn (hi.run pins s σ H _ I h) fun xv s1 hx => thn hx fun itv s2 h2 => ?_)
  obtain ⟨it, fp, tn, J, H2, rfl, I2, T, st2, f2, q⟩ := h2
  refine wpAny_newObj_type (newEnv_comp ?_) (by show 0 ≤ sizeLine; decide)
  obtain ⟨D, hD⟩ : ∃ D, s2.heap.objs.size = D := ⟨_, rfl⟩
  rw [hD]
  obtain ⟨W, ⟨m0, w0⟩, turn⟩ := q D (I2.hok.fresh (Nat.le_of_eq hD))
  obtain ⟨H3, hH3⟩ : ∃ H3, upd H2 D (.lst []) = H3 := ⟨_, rfl⟩
  obtain ⟨s3, hs3⟩ : ∃ s3 : Shared, { s2 with heap := s2.heap.push { cls := .type "list", data := .seq ([] : List Value).toArray } } = s3 := ⟨_, rfl⟩
  have I3 : Inv X pins σ H3 s3 := by
    rw [← hs3, ← hH3]
    refine I2.laid (t' := s2.toks) (fun b o e => Heap.get?_push_of_some _ e) (Nat.le_of_eq hD) ⟨Nat.zero_le _, [], 0, .nil, ?_⟩
    rw [← hD]
    exact Heap.get?_push_size _ rfl
  have k3 : ∀ b o, s2.heap.get? b = some o → s3.heap.get? b = some o := fun b o e => by rw [← hs3]; exact Heap.get?_push_of_some _ e
  have z3 : s2.heap.objs.size ≤ s3.heap.objs.size := by rw [← hs3]; show _ ≤ (Heap.push _ _).objs.size; rw [Heap.size_push]; exact Nat.le_succ _
  have f3 : ∀ b ∈ fp, FpOk X pins H3 b ∧ b < s3.heap.objs.size := fun b hbm => by
    obtain ⟨o, e, _⟩ := T.obj _ _ st2 b hbm
    have lt := Heap.lt_size e
    refine ⟨⟨?_, (f2 b hbm).2⟩, Nat.lt_of_lt_of_le lt z3⟩
    rw [← hH3, upd_ne (by rw [← hD]; exact Nat.ne_of_lt lt)]
    exact (f2 b hbm).1
  obtain ⟨cl, hcl⟩ : ∃ cl, cellsFrom (s3.heap.objs.size + 1) scope.names (cloFrom X.env.cells scope.names []) = cl := ⟨_, rfl⟩
  obtain ⟨ce, hce⟩ : ∃ ce, compEnvC scope cl s3.heap.objs.size X.env = ce := ⟨_, rfl⟩
  obtain ⟨s4, hs4⟩ : ∃ s4 : Shared, { s3 with heap := pushCells (s3.heap.push { cls := .type "dict", data := .dict #[] }) scope.names } = s4 := ⟨_, rfl⟩
  have cL : ce.locals = s3.heap.objs.size := by rw [← hce]; rfl
  have k4 : ∀ b o, s3.heap.get? b = some o → s4.heap.get? b = some o := fun b o e => by rw [← hs4]; exact pushCells_keeps _ _ _ _ (Heap.get?_push_of_some _ e)
  have I4 : Inv (blkQ X p s3 H3 scope ce fp) [] (wipe σ (own.map (·.2))) H3 s4 := by
    have B := block_start I3 ok hN f3
    rw [hcl, hce, hs4] at B
    have P3 := I3.pin p (List.mem_append_left _ hb.pn)
    refine Inv.toQ B ⟨k4 _ _ P3.1, P3.2.1, ?_, fun z => (List.mem_cons.mp (I3.stkSub _ z)).elim P3.2.2.1 P3.2.2.2.1, P3.2.2.2.2⟩
    rw [cL]
    exact Nat.ne_of_lt (Heap.lt_size P3.1)
  have pg := hg s3 H3 s3.heap.objs.size cl fp
  have pt := ht s3 H3 s3.heap.objs.size cl fp
  have pe := he s3 H3 s3.heap.objs.size cl fp
  rw [hce] at pg pt pe
  have hs3' : ({ heap := s2.heap.push { cls := .type "list", data := .seq ([] : List Value).toArray }, gens := s2.gens, drawn := s2.drawn, toks := s2.toks, os := s2.os } : Shared) = s3 := hs3
  have goal : codeAny (model X.prog X.w) X.A (.compStart (.ListComp elt [⟨tg, iter, ifs, 0⟩] scope pos) 0 (.ref it) (.ref D) ce) (compPost (model X.prog X.w) X.A X.xe use Qf (.ref D) s3.heap.objs.size) s4 := by
    have st4 : tn 0 s4.heap := T.keep _ _ _ st2 fun b _ o e => k4 _ _ (k3 _ _ e)
    have stat : ∀ {σ' : L2.St} {H' : Hp} {s' : Shared}, Inv (blkQ X p s3 H3 scope ce fp) [] σ' H' s' → (∀ b ∈ fp, H' b = none) → ∀ b ∈ fp, FpOk (blkQ X p s3 H3 scope ce fp) [] H' b := fun I' hn b hbm =>
      ⟨hn b hbm, (I'.ok.exf b hbm).1, I'.ok.exfs b hbm, .inl hbm, fun x c e => (I'.ok.exf b hbm).2 x c e, fun q hq => by
        have e : q = p := by simpa using (show q ∈ [p] ++ ([] : List (Addr × Obj)) from hq)
        rw [e]; exact (f2 b hbm).2.2.2.2.2 p (List.mem_append_left _ hb.pn)⟩
    have loop : codeAny (model X.prog X.w) X.A (.compLoop (.ListComp elt [⟨tg, iter, ifs, 0⟩] scope pos) 0 (.ref it) (.ref D) ce) (compPost (model X.prog X.w) X.A X.xe use Qf (.ref D) s3.heap.objs.size) s4 := by
      refine compLoop_any (fun n s' => ∃ i H', Inv (blkQ X p s3 H3 scope ce fp) [] (wipe σ (own.map (·.2))) H' s' ∧ tn i s'.heap ∧ (∀ b ∈ fp, H' b = none) ∧ W i n H') ?_ m0 ⟨0, H3, I4, st4, fun b hbm => (f3 b hbm).1.1, by rw [← hH3]; exact w0⟩
      rintro n s5 ⟨i, H5, I5, st5, n5, w5⟩
      rcases turn i n H5 w5 with ⟨stop, qq⟩ | ⟨go, Nx, hNx, step⟩
      · refine thnF (T.done (blkQ X p s3 H3 scope ce fp) p rfl rfl rfl hb.blk i [] s5 _ H5 (fun _ _ => False) I5 (stat I5 n5) st5 stop) fun r s6 ⟨hr, I6⟩ => ?_
        subst hr
        have I7 : Inv X pins σ H5 s6 := I3.call' (ch := fp) I6.os I6.base I6.hok I6.bare fun b hbm => ⟨(f3 b hbm).1.2.2.2.1, (f3 b hbm).1.2.1, (f3 b hbm).1.2.2.2.2.1, (f3 b hbm).1.2.2.2.2.2⟩
        obtain ⟨m, hn, _⟩ := I6.loc
        have nC : H5 ce.locals = none := I6.free
        have hn : s6.heap.Ns ce.locals m := hn
        rw [cL] at hn nC
        exact hRR D _ s6 m H5 I7 qq hn (I3.fpOk (Nat.le_refl _) nC)
      · refine thnF (T.item (blkQ X p s3 H3 scope ce fp) rfl rfl rfl i [] s5 _ H5 (fun _ _ => False) I5 (stat I5 n5) st5 go) fun r s6 ⟨u, hr, h6⟩ => ?_
        subst hr
        refine thnF h6 fun _ s7 ⟨x, H7, I7, r7, y7, st7, n7⟩ => ?_
        refine thnF (pg.run _ s7 _ H7 x u _ (I7.pinned (stat I7 n7) (T.obj _ _ st7)) r7 (step x H7 y7)) fun _ s8 ⟨σ8, H8, I8, hw8, q8⟩ => ?_
        refine thnF (pt.run _ s8 σ8 H8 _ I8 q8) fun b s9 ⟨H9, I9, q9⟩ => ?_
        have fin : ∀ {s' : Shared} {H' : Hp}, Inv (blkQ X p s3 H3 scope ce fp) ([] ++ pinsAt fp s7.heap) σ8 H' s' → Nx H' → ∃ m, m < n ∧ ∃ i H', Inv (blkQ X p s3 H3 scope ce fp) [] (wipe σ (own.map (·.2))) H' s' ∧ tn i s'.heap ∧ (∀ b ∈ fp, H' b = none) ∧ W i m H' := fun {s' H'} I' nx => by
          obtain ⟨m', hm, w'⟩ := hNx H' nx
          have pin' : ∀ b ∈ fp, ∀ o, s7.heap.get? b = some o → s'.heap.get? b = some o ∧ H' b = none := fun b hbm o e =>
            have z := I'.pin (b, o) (List.mem_append_right _ (List.mem_append_right _ (mem_pinsAt hbm e)))
            ⟨z.1, z.2.1⟩
          refine ⟨m', hm, i + 1, H', (I'.unpinned (pins := [])).weak (by rw [← hw8, wipe_length]) (fun j v e => ?_), T.keep _ _ _ st7 fun b hbm o e => (pin' b hbm o e).1, fun b hbm => ?_, w'⟩
          · rw [← hw8] at e
            exact (wipe_some e).1
          · obtain ⟨o, e, _⟩ := T.obj _ _ st7 b hbm
            exact (pin' b hbm o e).2
        cases b with
        | false =>
          simp only [Bool.false_eq_true, if_false] at q9 ⊢
          exact fin I9 q9
        | true =>
          simp only [if_true] at q9 ⊢
          refine thnF (pe.run _ s9 σ8 H9 _ I9 q9) fun v s10 ⟨yv, H10, I10, r10, acc, hD10, hz10, nx⟩ => ?_
          exact app_ok (X := blkQ X p s3 H3 scope ce fp) I10 hD10 hz10 r10 fun s11 I11 => fin I11 nx
    exact codeAny_compStart_list loop (T.self X.A 0 _ _ _ st4 loop)
  rw [← hs4, ← hce, ← hcl, ← hs3, ← hD] at goal
  rw [← hD]
  exact goal
/-- name = [..] on one line, the name a local -/
theorem ps_setLcQ {i : Nat} {y : Str} {py : Pos} {elt tg iter : Expr} {ifs : List Expr} {scope : Scope} {own : List (Str × Nat)} {pos spos : Pos} {wi : TI} {g : TG} {tt : TT} {te : TE} (hb : Bears X p) (hN : X.N.Nodup) (hy : X.N[i]? = some y) (hyl : X.env.scope.names.lookup y = some .local)
    (hsw : swapsWith (.ListComp elt [⟨tg, iter, ifs, 0⟩] scope pos) (some (.Name y py)) spos.line X.env = pure true) (hi : PIQ X tg iter wi) (ok : BlkOk X.N X.env.scope scope own)
    (hg : ∀ s H C cl fp, PG (blkQ X p s H scope (compEnvC scope cl C X.env) fp) tg g) (ht : ∀ s H C cl fp, PTs (blkQ X p s H scope (compEnvC scope cl C X.env) fp) ifs tt)
    (he : ∀ s H C cl fp, PE (blkQ X p s H scope (compEnvC scope cl C X.env) fp) elt te) (hs : ∀ x, foldedSetIterable iter X.env x = pure x) :
    PS X (.Assign [.Name y py] (.ListComp elt [⟨tg, iter, ifs, 0⟩] scope pos) spos) (tAsg (tLc wi g tt te (own.map (·.2))) (gName i)) := by
  refine ⟨fun pins s σ H D I h => ?_⟩
  rw [exec_Assign_Name_used _ _ _ _ hsw]
  refine wpAny_bind (wpAny_standAt (wpAny_bind ?_))
  have h : tLc wi g tt te (own.map (·.2)) σ H (fun x H1 => gName i x σ H1 D.nx) := h
  refine wpAny_bind (thn (lc_coreQ (pos' := firstIterPos [⟨tg, iter, ifs, 0⟩] pos) (use := some (assign (.Name y py) X.env)) (Qf := fun _ s' => SP X pins D .next s') hb hN I hi ok hg ht he hs h fun L C s' m H' I' q hn f => ?_) fun _ s' hq => wpAny_pure (wpAny_pure hq))
  show wpAny _ _ (assign (.Name y py) X.env (.ref L)) _ _ _
  refine wpAny_assign_Name (store_ok2 (v := V.ref L) I' hN hy (.inl hyl) rfl (fun s2 I2 ⟨a, sb, ha⟩ => ?_) (.inr hyl))
  obtain ⟨f0, f1, f2, f3, f4, f5⟩ := f
  have nCa : C ≠ a := ha.elim (fun z => by rw [z]; exact f1) fun z e => f4 y a z e.symm
  exact ⟨m, hn.sameBut sb nCa, fun h3 sb3 => ⟨_, H', I2.turned (t' := s2.toks) (fun b o hb e => (sb3.2 b hb).trans e) f0 f1 f3 f4 f5, q⟩⟩
end
end Hx

namespace Hx
open PySem PySem.Spec PyProof.Rows HotX L2
open Sn (ers wds enm)
def ask : List Str := ers ++ [("SpaceError" : Str)]
def asv : List Str := "ValueError" :: ask
/-- isinstance(e, c), e of the class c0 -/
def isRes (c0 c : Str) : Bool := decide (c = c0) || (decide (c = "SpaceError") || decide (c = "ValueError"))
structure EnK (K : PySem.W.Frag) (mg : Str → Option Value) : Prop where
  gl : ∀ c ∈ ask, mg c = some (.ref (He.ga K c))
  ve : mg "ValueError" = none
  exc : ∀ c ∈ ers, ExcC K (He.ga K c)
  isa : ∀ c0 ∈ ers, ∀ c ∈ ask, PySem.W.kitOne K (.ref (He.ga K c0)) (.ref (He.ga K c)) = some (isRes c0 c)
  isv : ∀ c0 ∈ ers, PySem.W.kitOne K (.ref (He.ga K c0)) (.type "ValueError") = some true
  exm : ∀ c0 ∈ ers, PySem.W.exmOne K (.ref (He.ga K c0)) (.ref (He.ga K "SpaceError")) = some true
/-- isinstance(e, c), e pinned -/
theorem call_isQ {X : Cx} {D : Addr} {p : Addr × Obj} (C : ExcC X.K D) (hp : p ∈ X.pn) (hz : Zc (.ref D) none p.2) (hf : ∃ vs, p.2.data = .fields vs) : CallR X (.builtin "isinstance") (rIsE X.K D p.1) := by
  intro pins s σ H xs us Q I r h
  obtain ⟨c, cv, b, rfl, hcv, e, q⟩ := h
  obtain ⟨a, oc, od, oda, osl⟩ := p
  obtain ⟨vs, hv⟩ := hf
  obtain ⟨h1, h2⟩ := hz
  dsimp only at h1 h2 hv
  subst h1 h2 hv
  cases r with
  | cons rx rr =>
    cases rr with
    | cons rt rr =>
      cases rr
      cases rx
      cases hcv _ rt
      have J : PySem.W.InstAt s.heap a ⟨.ref D, none, .fields vs, osl⟩ D none := ⟨(I.pin _ (List.mem_append_left _ hp)).1, rfl, rfl, trivial⟩
      exact PySem.W.kia_one (PySem.W.handS_kitx_exc C.hg C.hk C.hs C.hd C.ha C.hn C.ht C.hm) I.kIn J e (fun z => nomatch z) fun tk => ⟨.bl b, H, I.kept (t' := tk) fun _ _ z => z, rfl, q⟩
def lcN (sc : Scope) (x : Str) : Bool := decide (sc.names.lookup x = some .local)
def glN (sc : Scope) (x : Str) : Bool := decide (sc.names.lookup x = some .globalImplicit)
def enN : List Str := ["e", "some", "words", "names", "word", "good"]
/-- the context of the body -/
structure EnX (X : Cx) (p : Addr × Obj) (c0 : Str) : Prop where
  bears : Bears X p
  K : EnK X.K X.mg
  mem : c0 ∈ ers
  zc : Zc (.ref (He.ga X.K c0)) none p.2
  fl : ∃ vs, p.2.data = .fields vs
  N : X.N = enN
  fn : X.fn = fun _ => true
  kind : X.env.scope.kind = .function
  e_ : X.env.scope.names.lookup ("e" : Str) = some .local
  some_ : X.env.scope.names.lookup ("some" : Str) = some .local
  words_ : X.env.scope.names.lookup ("words" : Str) = some .local
  names_ : X.env.scope.names.lookup ("names" : Str) = some .local
  isi_ : X.env.scope.names.lookup ("isinstance" : Str) = some .globalImplicit
  zip_ : X.env.scope.names.lookup ("zip" : Str) = some .globalImplicit
  miss : X.mg "isinstance" = none
  mzip : X.mg "zip" = none
  hu : X.A.units + 65 < cLine
section
variable {X : Cx} {p : Addr × Obj} {c0 : Str}
theorem nodbg {x : Str} (h : x ∈ asv) : (x == ("__debug__" : Str)) = false := by
  have : (asv).all (fun x => !(x == ("__debug__" : Str))) = true := by decide +kernel
  have := List.all_eq_true.mp this x h
  simpa using this
def tIsx (a : Addr) (b : Bool) : TE := fun σ H Q => σ[0]? = some (some (.ref a)) ∧ Q (.bl b) H
theorem pe_isx (O : EnX X p c0) {c : Str} {q1 q2 q3 q4 : Pos} (hc : c ∈ asv) (hg : X.env.scope.names.lookup c = some .globalImplicit) :
    PE X (.Call (.Name "isinstance" q1) [.Name "e" q2, .Name c q3] [] q4) (tIsx p.1 (isRes c0 c)) := by
  have gi : Gl X "isinstance" := O.isi_
  have gc : Gl X c := hg
  have pv : PE X (.Name "e" q2) (tVar 0) := pe_var (by rw [O.N]; rfl) (.inl O.e_)
  have db := nodbg hc
  rcases List.mem_cons.mp (show c ∈ ("ValueError" : Str) :: ask from hc) with rfl | hm
  · have pc : PE X (.Name "ValueError" q3) (tC (.ty "ValueError")) := pe_bltn (u := .type "ValueError") gc O.K.ve (by decide +kernel) rfl (by decide) db
    refine Sn.PE.imp (pe_callB (call_isQ (O.K.exc c0 O.mem) O.bears.pn O.zc O.fl) gi O.miss Sn.bb_isinstance (pa_cons pv (pa_cons pc pa_nil))) fun σ H Q ⟨h, q⟩ => ?_
    refine ⟨_, h, .ty "ValueError", .type "ValueError", true, rfl, (fun u r => ?_), O.K.isv c0 O.mem, ?_⟩
    · cases u <;> first | (cases r; done) | (cases r; rfl)
    · have : isRes c0 "ValueError" = true := by unfold isRes; simp
      rw [this] at q; exact q
  · have pc : PE X (.Name c q3) (tC (.ref (He.ga X.K c))) := pe_glob (u := .ref (He.ga X.K c)) gc (O.K.gl c hm) rfl db
    refine Sn.PE.imp (pe_callB (call_isQ (O.K.exc c0 O.mem) O.bears.pn O.zc O.fl) gi O.miss Sn.bb_isinstance (pa_cons pv (pa_cons pc pa_nil))) fun σ H Q ⟨h, q⟩ => ?_
    refine ⟨_, h, .ref (He.ga X.K c), .ref (He.ga X.K c), _, rfl, (fun u r => ?_), O.K.isa c0 O.mem c hm, q⟩
    cases r; rfl
/-- [isinstance(e, c), ..] -/
def isxB (sc : Scope) : List Expr → List Str → Bool
  | [], [] => true
  | .Call (.Name n _) [.Name v _, .Name d _] kws _ :: es, c :: cs => decide (n = "isinstance") && (decide (v = "e") && (decide (d = c) && (kws.isEmpty && (decide (c ∈ asv) && (glN sc c && isxB sc es cs)))))
  | _, _ => false
theorem pa_isx (O : EnX X p c0) : ∀ {es : List Expr} {cs : List Str}, isxB X.env.scope es cs = true → PA X es (fun σ H Q => σ[0]? = some (some (.ref p.1)) ∧ Q (cs.map fun c => .bl (isRes c0 c)) H)
  | [], [], _ => ⟨fun pos pins s σ H Q I h => pa_nil.run pos pins s σ H Q I h.2⟩
  | e :: es, c :: cs, h => by
    unfold isxB at h
    split at h
    · rename_i heq _; cases heq
    · rename_i n q1 v q2 d q3 kws q4 es' c' cs' e1 e2
      cases e1; cases e2
      simp only [Bool.and_eq_true, decide_eq_true_eq] at h
      obtain ⟨rfl, rfl, rfl, h4, h5, h6, h7⟩ := h
      cases Sn.kws_nil h4
      have h6 : X.env.scope.names.lookup d = some .globalImplicit := of_decide_eq_true h6
      have ih := pa_isx O h7
      have A := pa_cons (pe_isx (q1 := q1) (q2 := q2) (q3 := q3) (q4 := q4) O h5 h6) ih (Sn.star_of fun _ _ z => nomatch z)
      exact ⟨fun pos pins s σ H Q I ⟨g, q⟩ => A.run pos pins s σ H Q I ⟨g, g, q⟩⟩
    · cases h
  | [], _ :: _, h => by cases h
  | e :: es, [], h => by
    unfold isxB at h
    split at h
    · rename_i heq _; cases heq
    · rename_i heq; cases heq
    · cases h
end
end Hx

namespace Hx
open PySem PySem.Spec PyProof.Rows HotX L2
open Sn (ers wds enm)
structure St1 (H0 : Hp) (a : Addr) (bs : List Bool) (σ : L2.St) (H : Hp) : Prop where
  len : σ.length = 6
  e : σ[0]? = some (some (.ref a))
  ex : ∃ q, σ[1]? = some (some (.ref q)) ∧ H q = some (.lst (bs.map V.bl))
  kp : ∀ b, H0 b ≠ none → H b = H0 b
theorem kp_upd {H0 H : Hp} {p : Addr} {o : HO} (k : ∀ b, H0 b ≠ none → H b = H0 b) (n : H p = none) : ∀ b, H0 b ≠ none → upd H p o b = H0 b := fun b hb => by
  have e := k b hb
  by_cases z : b = p
  · subst z; rw [n] at e; exact absurd e.symm hb
  · rw [upd_ne z]; exact e
section
variable {X : Cx} {p : Addr × Obj} {c0 : Str}
theorem EnX.nd (O : EnX X p c0) : X.N.Nodup := by rw [O.N]; decide +kernel
theorem EnX.some1 (O : EnX X p c0) : X.N[1]? = some ("some" : Str) := by rw [O.N]; rfl
theorem EnX.words2 (O : EnX X p c0) : X.N[2]? = some ("words" : Str) := by rw [O.N]; rfl
theorem EnX.names3 (O : EnX X p c0) : X.N[3]? = some ("names" : Str) := by rw [O.N]; rfl
/-- some = [..] -/
theorem ps_some1 (O : EnX X p c0) {es : List Expr} {cs : List Str} {q1 q2 pos : Pos} (h : isxB X.env.scope es cs = true) (hl : cs.length ≤ 100) :
    PS X (.Assign [.Name "some" q1] (.List es q2) pos) (fun D σ H => (σ.length = 6 ∧ σ[0]? = some (some (.ref p.1))) ∧ ∀ σ' H', St1 H p.1 (cs.map (isRes c0)) σ' H' → D.nx σ' H') := by
  refine Sn.PS.imp (ps_set O.nd O.some1 (.inl O.some_) (pe_lst (pa_isx O h)) (by rfl) (.inr O.some_)) fun D σ H ⟨⟨h1, h2⟩, k⟩ => ⟨h2, by rw [List.length_map]; exact Nat.le_trans hl (by decide), fun r nr => ?_⟩
  refine k _ _ ⟨by rw [List.length_set]; exact h1, by rw [List.getElem?_set_ne (by decide)]; exact h2, ⟨r, by rw [List.getElem?_set_self (by rw [h1]; decide)], by rw [upd_same, List.map_map]; rfl⟩, kp_upd (fun _ _ => rfl) nr⟩
/-- some = some + [..] -/
theorem ps_some2 (O : EnX X p c0) {es : List Expr} {cs : List Str} {q1 q2 q3 q4 pos : Pos} (h : isxB X.env.scope es cs = true) (hl : cs.length ≤ 100) :
    PS X (.Assign [.Name "some" q1] (.BinOp (.Name "some" q2) .Add (.List es q3) q4) pos) (fun D σ H => ∃ H0 bs, bs.length ≤ 100 ∧ St1 H0 p.1 bs σ H ∧ ∀ σ' H', St1 H0 p.1 (bs ++ cs.map (isRes c0)) σ' H' → D.nx σ' H') := by
  have pv : PE X (.Name "some" q2) (tVar 1) := pe_var O.some1 (.inl O.some_)
  refine Sn.PS.imp (ps_set O.nd O.some1 (.inl O.some_) (pe_op Sn.op_catL pv (pe_lst (pa_isx O h))) (by rfl) (.inr O.some_)) fun D σ H ⟨H0, bs, hb, S, k⟩ => ?_
  obtain ⟨q, e1, e2⟩ := S.ex
  refine ⟨_, e1, S.e, by rw [List.length_map]; exact Nat.le_trans hl (by decide), fun r nr => ?_⟩
  have nq : q ≠ r := by rintro rfl; rw [nr] at e2; cases e2
  refine ⟨q, r, _, _, rfl, rfl, .inl (by rw [upd_ne nq]; exact e2), .inl upd_same, by rw [List.length_map, List.length_map]; exact Nat.le_trans (Nat.add_le_add hb hl) (by decide), fun t nt => ?_⟩
  refine k _ _ ⟨by rw [List.length_set]; exact S.len, by rw [List.getElem?_set_ne (by decide)]; exact S.e, ⟨t, by rw [List.getElem?_set_self (by rw [S.len]; decide)], by rw [upd_same, List.map_append, List.map_map]; rfl⟩, kp_upd (kp_upd S.kp nr) nt⟩
structure St2 (H0 : Hp) (a : Addr) (bs : List Bool) (x : Str) (σ : L2.St) (H : Hp) : Prop extends St1 H0 a bs σ H where
  w : σ[2]? = some (some (.str x))
theorem St1.put {H0 : Hp} {a : Addr} {bs : List Bool} {σ : L2.St} {H : Hp} {x : Str} (S : St1 H0 a bs σ H) : St2 H0 a bs x (σ.set 2 (some (.str x))) H :=
  ⟨⟨by rw [List.length_set]; exact S.len, by rw [List.getElem?_set_ne (by decide)]; exact S.e, by
    obtain ⟨q, e1, e2⟩ := S.ex
    exact ⟨q, by rw [List.getElem?_set_ne (by decide)]; exact e1, e2⟩, S.kp⟩, by rw [List.getElem?_set_self (by rw [S.len]; decide)]⟩
theorem ps_words1 (O : EnX X p c0) {x : Str} {j : Nat} {q1 q2 pos : Pos} :
    PS X (.Assign [.Name "words" q1] (.Constant (.str x) j q2) pos) (fun D σ H => ∃ H0 bs, St1 H0 p.1 bs σ H ∧ ∀ σ' H', St2 H0 p.1 bs x σ' H' → D.nx σ' H') := by
  refine Sn.PS.imp (ps_set O.nd O.words2 (.inl O.words_) pe_str (by rfl) (.inr O.words_)) fun D σ H ⟨H0, bs, S, k⟩ => k _ _ S.put
theorem ps_words2 (O : EnX X p c0) {y : Str} {j : Nat} {q1 q2 q3 q4 pos : Pos} :
    PS X (.Assign [.Name "words" q1] (.BinOp (.Name "words" q2) .Add (.Constant (.str y) j q3) q4) pos) (fun D σ H => ∃ H0 bs x, x.length + y.length ≤ 1000 ∧ St2 H0 p.1 bs x σ H ∧ ∀ σ' H', St2 H0 p.1 bs (x ++ y) σ' H' → D.nx σ' H') := by
  have pv : PE X (.Name "words" q2) (tVar 2) := pe_var O.words2 (.inl O.words_)
  refine Sn.PS.imp (ps_set O.nd O.words2 (.inl O.words_) (pe_op op_add_str pv pe_str) (by rfl) (.inr O.words_)) fun D σ H ⟨H0, bs, x, hx, S, k⟩ => ?_
  exact ⟨_, S.w, x, y, rfl, rfl, Nat.le_trans hx (by decide), k _ _ S.toSt1.put⟩
end
end Hx

namespace Hx
open PySem PySem.Spec PyProof.Rows HotX L2
open Sn (ers wds enm)
def filt (ws : List Str) (bs : List Bool) : List Str := ((ws.zip bs).filter (·.2)).map (·.1)
theorem filt_snoc {ws : List Str} {bs : List Bool} {i : Nat} {x : Str} {b : Bool} (h1 : ws[i]? = some x) (h2 : bs[i]? = some b) : filt (ws.take (i + 1)) (bs.take (i + 1)) = filt (ws.take i) (bs.take i) ++ if b then [x] else [] := by
  have l1 : i < ws.length := by obtain ⟨h, _⟩ := List.getElem?_eq_some_iff.mp h1; exact h
  have l2 : i < bs.length := by obtain ⟨h, _⟩ := List.getElem?_eq_some_iff.mp h2; exact h
  unfold filt
  rw [List.take_add_one, List.take_add_one, h1, h2]
  simp only [Option.toList_some]
  rw [List.zip_append (by rw [List.length_take, List.length_take]; omega)]
  simp only [List.zip_cons_cons, List.zip_nil_right, List.filter_append, List.map_append]
  cases b <;> simp
structure St3 (H0 : Hp) (a : Addr) (l : List Str) (σ : L2.St) (H : Hp) : Prop where
  ex : ∃ q, σ[3]? = some (some (.ref q)) ∧ H q = some (.lst (l.map V.str))
  kp : ∀ b, H0 b ≠ none → H b = H0 b
section
variable {X : Cx} {p : Addr × Obj} {c0 : Str}
theorem blk_lookup {scope sc : Scope} {x : Str} (h : scope.names.lookup x = some .local) : (relS scope sc).names.lookup x = some .local := lookup_relS_keep (by decide) h
theorem ps_names (O : EnX X p c0) {scope : Scope} {q1 q2 q3 q4 q5 q6 q7 apos q8 cp q9 q10 q11 cpos spos : Pos} {k1 j : Nat} (hblk : blkC enN X.env.scope scope [("word", 4), ("good", 5)] = true)
    (hw : scope.names.lookup ("word" : Str) = some .local) (hg : scope.names.lookup ("good" : Str) = some .local) (hline : (apos.endLine == cp.line) = true) (hl : (q1.line == cpos.line) = true)
    (hn : (scope.names.any fun (n, k) => n == ("names" : Str) && (k == .local || k == .cell)) = false) :
    PS X (.Assign [.Name "names" q1] (.ListComp (.Name "word" q2) [⟨.Tuple [.Name "word" q3, .Name "good" q4] k1 q5, .Call (.Name "zip" q6) [.Call (.Attribute (.Name "words" q7) "split" apos) [.Constant (.str " ") j q8] [] cp, .Name "some" q9] [] q10, [.Name "good" q11], 0⟩] scope cpos) spos)
      (fun D σ H => ∃ H0 bs x ws, Txt.split x " " = ws ∧ x.length ≤ 1000 ∧ ws.length = bs.length ∧ bs.length ≤ 100 ∧ St2 H0 p.1 bs x σ H ∧ ∀ σ' H', St3 H0 p.1 (filt ws bs) σ' H' → D.nx σ' H') := by
  have gz : Gl X "zip" := O.zip_
  have pw : PE X (.Name "words" q7) (tVar 2) := pe_var O.words2 (.inl O.words_)
  have psm : PE X (.Name "some" q9) (tVar 1) := pe_var O.some1 (.inl O.some_)
  have pspl := pe_split (pos := cp) pw (pe_str (X := X) (x := " ") (j := j) (pos := q8)) (by rfl) (by rfl) hline
  have pi := pi_zipQ (X := X) (p := q6) (pos := q10) (tpos := q5) (elts := [.Name "word" q3, .Name "good" q4]) (kk := k1) gz O.mzip (pa_cons pspl (pa_cons psm pa_nil)) (by rfl) (by rfl)
  have N4 : ∀ s H C cl fp, (blkQ X p s H scope (compEnvC scope cl C X.env) fp).N[4]? = some ("word" : Str) := fun s H C cl fp => by show X.N[4]? = _; rw [O.N]; rfl
  have N5 : ∀ s H C cl fp, (blkQ X p s H scope (compEnvC scope cl C X.env) fp).N[5]? = some ("good" : Str) := fun s H C cl fp => by show X.N[5]? = _; rw [O.N]; rfl
  have lw : ∀ s H C cl fp, (blkQ X p s H scope (compEnvC scope cl C X.env) fp).env.scope.names.lookup ("word" : Str) = some .local := fun s H C cl fp => blk_lookup hw
  have lg : ∀ s H C cl fp, (blkQ X p s H scope (compEnvC scope cl C X.env) fp).env.scope.names.lookup ("good" : Str) = some .local := fun s H C cl fp => blk_lookup hg
  have ok : BlkOk X.N X.env.scope scope [("word", 4), ("good", 5)] := by rw [O.N]; exact blkOk_by hblk
  refine Sn.PS.imp (ps_setLcQ (p := p) (g := gTup X.K 2 (gCons (gName 4) (gCons (gName 5) gNil))) (tt := tTest (tVar 5)) (te := tVar 4) O.bears O.nd O.names3 O.names_ (sw_true O.kind O.names_ hl hn) pi ok (fun s H C cl fp => ?_) (fun s H C cl fp => ?_) (fun s H C cl fp => ?_) (fun _ => rfl)) fun D σ H ⟨H0, bs, x, ws, hx, hx2, hlen, hlb, S, k⟩ => ?_
  · exact pg_tupQ O.bears.blk (pgs_cons (pg_name O.nd (N4 s H C cl fp) (.inl (lw s H C cl fp)) (.inr (lw s H C cl fp))) (pgs_cons (pg_name O.nd (N5 s H C cl fp) (.inl (lg s H C cl fp)) (.inr (lg s H C cl fp))) pgs_nil)) (by rfl) (by rfl)
  · have pv : PE (blkQ X p s H scope (compEnvC scope cl C X.env) fp) (.Name "good" q11) (tVar 5) := pe_var (N5 s H C cl fp) (.inl (lg s H C cl fp))
    exact pts_one (Sn.PT.imp (pt_val pv) fun σ H Q h => h)
  · exact pe_var (N4 s H C cl fp) (.inl (lw s H C cl fp))
  · obtain ⟨q, e1, e2⟩ := S.ex
    refine ⟨_, S.w, ⟨x, rfl⟩, x, " ", rfl, rfl, by decide +kernel, Nat.le_trans (Nat.add_le_add_right hx2 2) (by decide), fun r nr => ⟨_, e1, ?_⟩⟩
    rw [hx]
    have nq : q ≠ r := by rintro rfl; rw [nr] at e2; cases e2
    refine ⟨r, q, _, _, rfl, .of upd_same, .of (by rw [upd_ne nq]; exact e2), fun E nE => ?_⟩
    have nEr : E ≠ r := by rintro rfl; rw [upd_same] at nE; cases nE
    have nEq : E ≠ q := by rintro rfl; rw [upd_ne nq, e2] at nE; cases nE
    let Pv : Nat → Hp → Prop := fun i H => H E = some (.lst ((filt (ws.take i) (bs.take i)).map V.str)) ∧ H r = some (.lst (ws.map V.str)) ∧ H q = some (.lst (bs.map V.bl)) ∧ ∀ b, H0 b ≠ none → H b = H0 b
    have p0 : Pv 0 (upd (upd H r (.lst (ws.map V.str))) E (.lst [])) :=
      ⟨upd_same, by rw [upd_ne (Ne.symm nEr)]; exact upd_same, by rw [upd_ne (Ne.symm nEq), upd_ne nq]; exact e2, kp_upd (kp_upd S.kp nr) nE⟩
    refine ⟨fun i m H => m = ws.length - i ∧ i ≤ ws.length ∧ Pv i H, ⟨ws.length, rfl, Nat.zero_le _, p0⟩, ?_⟩
    rintro i m H1 ⟨rfl, hi, hE, hr, hq, hk⟩
    by_cases hlt : i < ws.length
    · right
      have g1 : ws[i]? = some ws[i] := List.getElem?_eq_getElem hlt
      have g2 : bs[i]? = some (bs[i]'(by omega)) := List.getElem?_eq_getElem (by omega)
      generalize ws[i] = wd at g1
      generalize bs[i]'(by omega) = bv at g2
      have m1 : (ws.map V.str)[i]? = some (.str wd) := by rw [List.getElem?_map, g1]; rfl
      have m2 : (bs.map V.bl)[i]? = some (.bl bv) := by rw [List.getElem?_map, g2]; rfl
      refine ⟨⟨_, _, _, _, .of hr, .of hq, m1, m2⟩, Pv (i + 1), fun H' p' => ⟨ws.length - (i + 1), by omega, rfl, hlt, p'⟩, ?_⟩
      rintro v H' ⟨T, y1, y2, rfl, hT, rfl, f1, f2⟩
      have z1 := f1 _ (.of hr)
      have z2 := f2 _ (.of hq)
      rw [m1] at z1; rw [m2] at z2
      cases z1; cases z2
      have nT : ∀ {b : Addr} {o : HO}, H1 b = some o → b ≠ T := fun h e => by rw [e, hT] at h; cases h
      refine ⟨T, [.str wd, .bl bv], rfl, .of upd_same, rfl, .str wd, [.bl bv], rfl, .bl bv, [], rfl, rfl, ?_⟩
      have hl6 : (wipe σ [4, 5]).length = 6 := by rw [wipe_length]; exact S.len
      have len6 : ((wipe σ [4, 5]).set 4 (some (.str wd))).length = 6 := by rw [List.length_set]; exact hl6
      refine ⟨?_, .bl bv, List.getElem?_set_self (show 5 < ((wipe σ [4, 5]).set 4 (some (V.str wd))).length by rw [len6]; decide), bv, rfl, ?_⟩
      · have : ∀ τ : L2.St, τ.length = 6 → wipe (((wipe τ [4, 5]).set 4 (some (.str wd))).set 5 (some (.bl bv))) [4, 5] = wipe τ [4, 5] := fun τ h => by
          match τ, h with
          | [a0, a1, a2, a3, a4, a5], _ => rfl
        exact this σ S.len
      have hE' : upd H1 T (.tup [.str wd, .bl bv]) E = some (.lst ((filt (ws.take i) (bs.take i)).map V.str)) := by rw [upd_ne (nT hE)]; exact hE
      have hr' : upd H1 T (.tup [.str wd, .bl bv]) r = some (.lst (ws.map V.str)) := by rw [upd_ne (nT hr)]; exact hr
      have hq' : upd H1 T (.tup [.str wd, .bl bv]) q = some (.lst (bs.map V.bl)) := by rw [upd_ne (nT hq)]; exact hq
      have hk' := kp_upd (o := .tup [.str wd, .bl bv]) hk hT
      have hE0 : H0 E = none := by
        cases z : H0 E with
        | none => rfl
        | some o =>
          have := kp_upd (o := HO.lst (ws.map V.str)) S.kp nr E (by rw [z]; simp)
          rw [nE, z] at this; cases this
      have fs := filt_snoc g1 g2
      cases bv with
      | false =>
        show Pv (i + 1) _
        refine ⟨by rw [hE', fs]; simp, hr', hq', hk'⟩
      | true =>
        simp only [↓reduceIte]
        refine ⟨.str wd, (List.getElem?_set_ne (by decide)).trans (List.getElem?_set_self (show 4 < (wipe σ [4, 5]).length by rw [hl6]; decide)), _, hE', ?_, by rw [fs]; rw [upd_same]; simp, by rw [upd_ne (Ne.symm nEr)]; exact hr', by rw [upd_ne (Ne.symm nEq)]; exact hq', fun b hb => ?_⟩
        · have : (filt (ws.take i) (bs.take i)).length ≤ 100 := by
            unfold filt
            rw [List.length_map]
            refine Nat.le_trans (List.length_filter_le ..) ?_
            rw [List.length_zip, List.length_take]; omega
          rw [List.length_map]
          exact Nat.lt_of_le_of_lt this (by decide)
        · rw [upd_ne (by rintro rfl; exact hb hE0)]; exact hk' b hb
    · left
      have e : i = ws.length := by omega
      subst e
      refine ⟨⟨_, _, .of hr, .of hq, .inl (by rw [List.length_map]; exact Nat.le_refl _)⟩, k _ _ ⟨⟨E, by rw [List.getElem?_set_self (by rw [S.len]; decide)], ?_⟩, hk⟩⟩
      rw [hE, List.take_of_length_le (Nat.le_refl _), List.take_of_length_le (by omega)]
end
end Hx

namespace Hx
open PySem PySem.Spec PyProof.Rows HotX L2
open Sn (ers wds enm)
section
variable {X : Cx} {p : Addr × Obj} {c0 : Str}
theorem ps_last (O : EnX X p c0) {q1 q2 q3 q4 q5 q6 q7 q8 q9 q10 q11 q12 q13 pos : Pos} {j1 j2 j3 j4 j5 : Nat} :
    PS X (.Return (some (.IfExp (.Compare (.Subscript (.Name "names" q1) (.Slice (some (.Constant (.int 1) j1 q2)) none none q3) q4) [.Eq] [.List [.Constant (.str "base") j2 q5, .Constant (.str "value") j3 q6] q7] q8) (.Subscript (.Name "names" q9) (.Constant (.int 0) j4 q10) q11) (.Constant (.str "other") j5 q12) q13)) pos)
      (fun D σ H => ∃ H0 w, St3 H0 p.1 [w, "base", "value"] σ H ∧ ∀ H', (∀ b, H0 b ≠ none → H' b = H0 b) → D.rt (.str w) H') := by
  have pn : ∀ q, PE X (.Name "names" q) (tVar 3) := fun q => pe_var O.names3 (.inl O.names_)
  have psl := pe_slice (pos := q4) (p2 := q3) sl_list (pn q1) (po_some (pe_int (X := X) (i := 1) (j := j1) (pos := q2))) po_none
  have pls := pe_lst (pos := q7) (pa_cons (pe_str (X := X) (x := "base") (j := j2) (pos := q5)) (pa_cons (pe_str (X := X) (x := "value") (j := j3) (pos := q6)) pa_nil))
  have hu : X.A.units + 64 < cLine := by have := O.hu; omega
  have pc := pt_cmpR (pos := q8) (op_eqD hu) psl pls (nomark _)
  have pix := pe_ix (pos := q11) ix_list (pn q9) (pe_int (X := X) (i := 0) (j := j4) (pos := q10)) (fun _ _ => rfl)
  refine Sn.PS.imp (ps_ret (pe_ifExp pc pix pe_str)) fun D σ H ⟨H0, w, S, k⟩ => ?_
  obtain ⟨q, e1, e2⟩ := S.ex
  refine ⟨_, e1, 1, rfl, q, _, rfl, .of e2, fun r nr => ⟨by decide, fun t nt => ?_⟩⟩
  have nq : q ≠ r := by rintro rfl; rw [nr] at e2; cases e2
  have nq2 : q ≠ t := by rintro rfl; rw [upd_ne nq, e2] at nt; cases nt
  have nrt : r ≠ t := by rintro rfl; rw [upd_same] at nt; cases nt
  refine ⟨.list [.str "base", .str "value"], .list [.str "base", .str "value"], .lst (.of (by rw [upd_ne nrt]; exact upd_same)) (.cons (.str _) (.cons (.str _) .nil)), .lst (.of upd_same) (.cons (.str _) (.cons (.str _) .nil)), by decide +kernel, by decide +kernel, _, rfl, ?_⟩
  have eb : (PyData.list [PyData.str "base", PyData.str "value"]).eqv (PyData.list [PyData.str "base", PyData.str "value"]) = true := by decide +kernel
  rw [eb]
  simp only [↓reduceIte]
  refine ⟨_, e1, q, _, 0, .str w, rfl, rfl, .of (by rw [upd_ne nq2, upd_ne nq]; exact e2), rfl, k _ (kp_upd (kp_upd S.kp nr) nt)⟩
end
/-- the def's text -/
def tx1 : Str := "layout set history count runs number report position chain workload "
def tx2 : Str := "name size nofile nosnapshot many undo base value"
def grp : List (List Str) := [["InvalidLayout", "InvalidSet", "InvalidHistory"], ["InvalidCount", "InvalidRuns", "InvalidNumber"], ["InvalidReport", "InvalidPosition", "InvalidChain"], ["InvalidWorkload", "InvalidName", "InvalidSize"], ["NoSuchFile", "NoSuchSnapshot", "TooMany"], ["NothingToUndo", "SpaceError", "ValueError"]]
def s1B (sc : Scope) (cs : List Str) : Stmt → Bool
  | .Assign [.Name a _] (.List es _) _ => decide (a = "some") && isxB sc es cs
  | _ => false
def s2B (sc : Scope) (cs : List Str) : Stmt → Bool
  | .Assign [.Name a _] (.BinOp (.Name b _) .Add (.List es _) _) _ => decide (a = "some") && (decide (b = "some") && isxB sc es cs)
  | _ => false
def s3B (x : Str) : Stmt → Bool
  | .Assign [.Name a _] (.Constant (.str y) _ _) _ => decide (a = "words") && decide (y = x)
  | _ => false
def s4B (x : Str) : Stmt → Bool
  | .Assign [.Name a _] (.BinOp (.Name b _) .Add (.Constant (.str y) _ _) _) _ => decide (a = "words") && (decide (b = "words") && decide (y = x))
  | _ => false
def s5B (sc : Scope) : Stmt → Bool
  | .Assign [.Name n1 q1] (.ListComp (.Name n2 _) [⟨.Tuple [.Name n3 _, .Name n4 _] _ _, .Call (.Name n6 _) [.Call (.Attribute (.Name n7 _) at_ apos) [.Constant (.str sp) _ _] kw1 cp, .Name n9 _] kw2 _, [.Name n11 _], asy⟩] scope cpos) _ =>
    (decide (n1 = "names") && (decide (n2 = "word") && (decide (n3 = "word") && (decide (n4 = "good") && (decide (n6 = "zip") && (decide (n7 = "words") && (decide (at_ = "split") && (decide (sp = " ") && (decide (n9 = "some") && (decide (n11 = "good") && (decide (asy = 0) && (kw1.isEmpty && kw2.isEmpty))))))))))))
    && ((apos.endLine == cp.line) && ((q1.line == cpos.line) && (blkC enN sc scope [("word", 4), ("good", 5)] && (lcN scope "word" && (lcN scope "good" && !(scope.names.any fun (n, k) => n == ("names" : Str) && (k == .local || k == .cell)))))))
  | _ => false
def s6B : Stmt → Bool
  | .Return (some (.IfExp (.Compare (.Subscript (.Name n1 _) (.Slice (some (.Constant (.int i1) _ _)) none none _) _) [.Eq] [.List [.Constant (.str u1) _ _, .Constant (.str u2) _ _] _] _) (.Subscript (.Name n2 _) (.Constant (.int i2) _ _) _) (.Constant (.str u3) _ _) _)) _ =>
    decide (n1 = "names") && (decide (i1 = 1) && (decide (u1 = "base") && (decide (u2 = "value") && (decide (n2 = "names") && (decide (i2 = 0) && decide (u3 = "other"))))))
  | _ => false
def enB (sc : Scope) : List Stmt → Bool
  | [a, b, c, d, e, f, g, h, i, j] => s1B sc ["InvalidLayout", "InvalidSet", "InvalidHistory"] a && (s2B sc ["InvalidCount", "InvalidRuns", "InvalidNumber"] b && (s2B sc ["InvalidReport", "InvalidPosition", "InvalidChain"] c && (s2B sc ["InvalidWorkload", "InvalidName", "InvalidSize"] d &&
      (s2B sc ["NoSuchFile", "NoSuchSnapshot", "TooMany"] e && (s2B sc ["NothingToUndo", "SpaceError", "ValueError"] f && (s3B tx1 g && (s4B tx2 h && (s5B sc i && s6B j))))))))
  | _ => false
section
variable {X : Cx} {p : Addr × Obj} {c0 : Str}
abbrev T1 (p : Addr × Obj) (c0 : Str) (cs : List Str) : TS := fun D σ H => (σ.length = 6 ∧ σ[0]? = some (some (.ref p.1))) ∧ ∀ σ' H', St1 H p.1 (cs.map (isRes c0)) σ' H' → D.nx σ' H'
abbrev T2 (p : Addr × Obj) (c0 : Str) (cs : List Str) : TS := fun D σ H => ∃ H0 bs, bs.length ≤ 100 ∧ St1 H0 p.1 bs σ H ∧ ∀ σ' H', St1 H0 p.1 (bs ++ cs.map (isRes c0)) σ' H' → D.nx σ' H'
theorem s1_ok (O : EnX X p c0) {cs : List Str} {st : Stmt} (h : s1B X.env.scope cs st = true) (hl : cs.length ≤ 100) : PS X st (T1 p c0 cs) := by
  unfold s1B at h
  split at h
  · simp only [Bool.and_eq_true, decide_eq_true_eq] at h
    obtain ⟨rfl, h⟩ := h
    exact ps_some1 O h hl
  · cases h
theorem s2_ok (O : EnX X p c0) {cs : List Str} {st : Stmt} (h : s2B X.env.scope cs st = true) (hl : cs.length ≤ 100) : PS X st (T2 p c0 cs) := by
  unfold s2B at h
  split at h
  · simp only [Bool.and_eq_true, decide_eq_true_eq] at h
    obtain ⟨rfl, rfl, h⟩ := h
    exact ps_some2 O h hl
  · cases h
theorem s3_ok (O : EnX X p c0) {x : Str} {st : Stmt} (h : s3B x st = true) : PS X st (fun D σ H => ∃ H0 bs, St1 H0 p.1 bs σ H ∧ ∀ σ' H', St2 H0 p.1 bs x σ' H' → D.nx σ' H') := by
  unfold s3B at h
  split at h
  · simp only [Bool.and_eq_true, decide_eq_true_eq] at h
    obtain ⟨rfl, rfl⟩ := h
    exact ps_words1 O
  · cases h
theorem s4_ok (O : EnX X p c0) {y : Str} {st : Stmt} (h : s4B y st = true) : PS X st (fun D σ H => ∃ H0 bs x, x.length + y.length ≤ 1000 ∧ St2 H0 p.1 bs x σ H ∧ ∀ σ' H', St2 H0 p.1 bs (x ++ y) σ' H' → D.nx σ' H') := by
  unfold s4B at h
  split at h
  · simp only [Bool.and_eq_true, decide_eq_true_eq] at h
    obtain ⟨rfl, rfl, rfl⟩ := h
    exact ps_words2 O
  · cases h
theorem s5_ok (O : EnX X p c0) {st : Stmt} (h : s5B X.env.scope st = true) : PS X st (fun D σ H => ∃ H0 bs x ws, Txt.split x " " = ws ∧ x.length ≤ 1000 ∧ ws.length = bs.length ∧ bs.length ≤ 100 ∧ St2 H0 p.1 bs x σ H ∧ ∀ σ' H', St3 H0 p.1 (filt ws bs) σ' H' → D.nx σ' H') := by
  unfold s5B at h
  split at h
  · simp only [Bool.and_eq_true, decide_eq_true_eq, Bool.not_eq_true'] at h
    obtain ⟨⟨rfl, rfl, rfl, rfl, rfl, rfl, rfl, rfl, rfl, rfl, rfl, k1, k2⟩, h1, h2, h3, h4, h5, h6⟩ := h
    cases Sn.kws_nil k1
    cases Sn.kws_nil k2
    exact ps_names O h3 (of_decide_eq_true h4) (of_decide_eq_true h5) h1 h2 h6
  · cases h
theorem s6_ok (O : EnX X p c0) {st : Stmt} (h : s6B st = true) : PS X st (fun D σ H => ∃ H0 w, St3 H0 p.1 [w, "base", "value"] σ H ∧ ∀ H', (∀ b, H0 b ≠ none → H' b = H0 b) → D.rt (.str w) H') := by
  unfold s6B at h
  split at h
  · simp only [Bool.and_eq_true, decide_eq_true_eq] at h
    obtain ⟨rfl, rfl, rfl, rfl, rfl, rfl, rfl⟩ := h
    exact ps_last O
  · cases h
theorem enm_mem {c0 w : Str} (h : enm c0 = some w) : c0 ∈ ers ∧ (c0, w) ∈ ers.zip wds := by
  have m := PySem.mem_of_lookup h
  exact ⟨(List.of_mem_zip m).1, m⟩
theorem wordsAre : Txt.split (tx1 ++ tx2) " " = wds ++ [("base" : Str), "value"] := by decide +kernel
theorem flagsAre {c0 w : Str} (h : enm c0 = some w) : filt (wds ++ [("base" : Str), "value"]) (grp.flatten.map (isRes c0)) = [w, "base", "value"] := by
  have : ∀ q ∈ ers.zip wds, filt (wds ++ [("base" : Str), "value"]) (grp.flatten.map (isRes q.1)) = [q.2, "base", "value"] := by decide +kernel
  exact this (c0, w) (enm_mem h).2
theorem en_body (O : EnX X p c0) {w : Str} (hw : enm c0 = some w) {body : List Stmt} (h : enB X.env.scope body = true) :
    ∃ t, PSs X body t ∧ ∀ (D : Ends) (H : Hp), (∀ H', (∀ b, H b ≠ none → H' b = H b) → D.rt (.str w) H') → t D (start enN [.ref p.1]) H := by
  unfold enB at h
  split at h
  · rename_i a b c d e f g h' i j
    simp only [Bool.and_eq_true] at h
    obtain ⟨h1, h2, h3, h4, h5, h6, h7, h8, h9, h10⟩ := h
    refine ⟨_, pss_cons (s1_ok O h1 (by decide)) (pss_cons (s2_ok O h2 (by decide)) (pss_cons (s2_ok O h3 (by decide)) (pss_cons (s2_ok O h4 (by decide)) (pss_cons (s2_ok O h5 (by decide)) (pss_cons (s2_ok O h6 (by decide)) (pss_cons (s3_ok O h7) (pss_cons (s4_ok O h8) (pss_cons (s5_ok O h9) (pss_one (s6_ok O h10)))))))))), fun D H k => ?_⟩
    refine ⟨⟨rfl, rfl⟩, fun σ1 H1 S1 => ⟨H, _, by simp, S1, fun σ2 H2 S2 => ⟨H, _, by simp, S2, fun σ3 H3 S3 => ⟨H, _, by simp, S3, fun σ4 H4 S4 => ⟨H, _, by simp, S4, fun σ5 H5 S5 => ⟨H, _, by simp, S5, fun σ6 H6 S6 => ⟨H, _, S6, fun σ7 H7 S7 => ⟨H, _, _, by decide +kernel, S7, fun σ8 H8 S8 => ⟨H, _, _, _, wordsAre, by decide +kernel, by simp [wds], by simp, S8, fun σ9 H9 S9 => ⟨H, w, ?_, fun H' kp => k H' kp⟩⟩⟩⟩⟩⟩⟩⟩⟩⟩
    have e := flagsAre hw
    have e2 : grp.flatten.map (isRes c0) = List.map (isRes c0) ["InvalidLayout", "InvalidSet", "InvalidHistory"] ++ List.map (isRes c0) ["InvalidCount", "InvalidRuns", "InvalidNumber"] ++ List.map (isRes c0) ["InvalidReport", "InvalidPosition", "InvalidChain"] ++ List.map (isRes c0) ["InvalidWorkload", "InvalidName", "InvalidSize"] ++ List.map (isRes c0) ["NoSuchFile", "NoSuchSnapshot", "TooMany"] ++ List.map (isRes c0) ["NothingToUndo", "SpaceError", "ValueError"] := rfl
    rw [e2] at e
    rw [e] at S9
    exact S9
  · cases h
end
end Hx

namespace Hx
open PySem PySem.Spec PyProof.Rows HotX L2
open Sn (ers wds enm)
/-- what the def promises where p is handled -/
def FnX (P : Program) (w : World) (K : PySem.W.Frag) (mg : Str → Option Value) (base : Heap) (f : Addr) (fd : FuncData) : Prop :=
  ∀ (A : Around) (outer : List PySem.Env) (s : Shared) (H : Hp) (args : Args) (p : Addr × Obj) (c z : Str) (Q : VK), L2H.RoomH 0 A → L2H.Hot1 A p → L2H.PinOk outer H s p → Zc (.ref (He.ga K c)) none p.2 → (∃ vs, p.2.data = .fields vs) → enm c = some z →
    Env0 P w K mg base A outer s H → BindsTo s fd args [("e", .ref p.1)] → (∀ H', (∀ b, H b ≠ none → H' b = H b) → Q (.str z) H') → codeAny (model P w) A (.call (.ref f) args) (CR (L2N.CX P w) outer P w H s Q fun _ _ _ => False) s
/-- the check of its text -/
def en1B (x : Str) (sc : Scope) (body : List Stmt) : Bool := Sn.scB0 enN ["e"] sc && (enB sc body && (lcN sc "e" && (lcN sc "some" && (lcN sc "words" && (lcN sc "names" && (glN sc "isinstance" && glN sc "zip"))))))
theorem fn_ofX {P : Program} {w : World} {K : PySem.W.Frag} {mg : Str → Option Value} {base : Heap} {x qual : Str} {params : Arguments} {body : List Stmt} {scope : Scope} {f : Addr} {fd : FuncData} (F : FunD K x qual params body scope [] [] f fd) (hB : en1B x scope body = true) (hK : EnK K mg)
    (m1 : mg "isinstance" = none) (m2 : mg "zip" = none) : FnX P w K mg base f fd := by
  obtain ⟨oc, od, dV, kV, doc, pm, an, cdv, ct, osl, rfl, lk, hcd, _, _⟩ := F.ex
  unfold en1B at hB
  simp only [Bool.and_eq_true] at hB
  obtain ⟨b1, b2, b3, b4, b5, b6, b7, b8⟩ := hB
  have S := Sn.scB0_ok b1
  intro A outer s H args p c z Q hr hot hpin hz hf hw e0 hb q
  have KX : K.In s.heap := e0.mod.kin.keeps fun b o e => (e0.bs b o e).1
  have lim : s.heap.NoLimit := e0.mod.nolimit.keeps fun b o e => (e0.bs b o e).1
  have hkind : ∀ y ∈ [(("e" : Str), Value.ref p.1)], scope.names.lookup y.1 = some .local ∨ (scope.names.lookup y.1 = some .cell ∧ ((cellsFrom (s.heap.objs.size + 1) scope.names []).lookup y.1).isSome = true) := fun y hy => by
    rw [List.mem_singleton.mp hy]
    exact .inl (of_decide_eq_true b3)
  refine codeAny_call_function hr.depth (KX _ _ lk) rfl S.co S.gen rfl (PySem.W.codeRec_of KX hcd) (hb _ _ _ _ ?_)
  refine wpAny_newFunctionEnv_cells S.kind hkind fun env he s1 y => ?_
  subst he
  refine ⟨lim.keeps y.toInCall.keep, codeAny_func ?_⟩
  have I : Inv (L2H.cxH (L2N.CX P w) P w K mg base enN qual scope f cdv A outer s H (fun _ _ _ => False) p) [] (L2.start enN [.ref p.1]) H s1 := L2H.inv_startH (ps := ["e"]) S hpin e0 rfl (.cons rfl .nil) y
  have O : EnX (L2H.cxH (L2N.CX P w) P w K mg base enN qual scope f cdv A outer s H (fun _ _ _ => False) p) p c :=
    ⟨⟨hot, List.mem_cons_self⟩, hK, (enm_mem hw).1, hz, hf, rfl, rfl, S.kind, of_decide_eq_true b3, of_decide_eq_true b4, of_decide_eq_true b5, of_decide_eq_true b6, of_decide_eq_true b7, of_decide_eq_true b8, m1, m2, by
      have := hr.un
      show A.units + 3 + 65 < cLine
      omega⟩
  obtain ⟨t, ht, hq⟩ := en_body O hw b2
  refine wpAny_mono (ht.run [] s1 _ H _ I (hq { nx := fun _ H' => Q .non H', rt := Q } H q)) (fun fl s' hs => ?_) fun e s' hs => hs
  have fin : ∀ {σ' : L2.St} {H' : Hp} {v : V} {u : Value}, Inv (L2H.cxH (L2N.CX P w) P w K mg base enN qual scope f cdv A outer s H (fun _ _ _ => False) p) [] σ' H' s' → RelV v u → Q v H' → CE outer P w H s Q u s' :=
    fun {σ' H' v u} J rv q => ⟨v, H', J.os, J.bare, J.base, J.hok, rv, q⟩
  cases fl with
  | ret u =>
    obtain ⟨v, σ', H', J, rv, q⟩ := hs
    exact fin J rv q
  | next =>
    obtain ⟨σ', H', J, q⟩ := hs
    exact fin (v := V.non) (u := Value.none) J rfl q
  | brk =>
    obtain ⟨_, _, _, q⟩ := hs
    exact False.elim q
  | cont =>
    obtain ⟨_, _, _, q⟩ := hs
    exact False.elim q
/-- the def stands in X under the name n -/
structure EnAt (X : Cx) (n : Str) : Prop where
  ex : ∃ f fd, FnX X.prog X.w X.K X.mg X.base f fd ∧ X.mg n = some (.ref f) ∧ PySem.W.keepIn X.K (.ref f) = true ∧ Binds X.K fd ["e"] []
  room : L2H.RoomH 0 X.A
  K : EnK X.K X.mg
  dbg : (n == ("__debug__" : Str)) = false
section
variable {X : Cx} {n x : Str} {i : Nat}
/-- return f(e), in the suite -/
theorem ps_retX (O : EnAt X n) {a : Addr} {oe : Obj} {pn : List (Addr × Obj)} {cls : Value} {d : Option Addr} (hz : L2N.Zn cls d oe) (hf : ∃ vs, oe.data = .fields vs) (hg : Gl X n) (hi : X.N[i]? = some x) (hv : Vis X.env.scope x)
    (hd : (x == ("__debug__" : Str)) = false) (hcd : (x == ("__classdict__" : Str)) = false) {q1 q2 pos pos' : Pos} :
    PS (X.suite a ((a, oe) :: pn)) (.Return (some (.Call (.Name n q1) [.Name x q2] [] pos)) pos') (fun D σ H => ∃ c z, enm c = some z ∧ cls = .ref (He.ga X.K c) ∧ d = none ∧ σ[i]? = some (some (.ref a)) ∧ ∀ H', (∀ b, H b ≠ none → H' b = H b) → D.rt (.str z) H') := by
  obtain ⟨f, fd, F, hm, hk, hb⟩ := O.ex
  have pv : PE (X.suite a ((a, oe) :: pn)) (.Name x q2) (tVar i) := pe_var hi hv hd hcd
  have pa := pa_cons pv pa_nil
  have pc : PE (X.suite a ((a, oe) :: pn)) (.Call (.Name n q1) [.Name x q2] [] pos) (fun σ H Q => ∃ c z, enm c = some z ∧ cls = .ref (He.ga X.K c) ∧ d = none ∧ σ[i]? = some (some (.ref a)) ∧ ∀ H', (∀ b, H b ≠ none → H' b = H b) → Q (.str z) H') := by
    refine ⟨fun pins s σ H Q I ⟨c, z, hw, hcls, hdn, hs, hq⟩ => ?_⟩
    subst hcls hdn
    refine wpAny_Call_Name_kw (ld_glob I (show Gl (X.suite a ((a, oe) :: pn)) n from hg) hm ?_ O.dbg)
    refine PySem.W.callWith_K (h₀ := X.base) I.ok.mod.kin hk (thn (pa.run pos pins s σ H (fun vs H1 => vs = [.ref a] ∧ H1 = H) I ⟨_, hs, rfl, rfl⟩) fun us s1 ⟨vs, H1, I1, r, e1, e2⟩ => ⟨I1.kIn, ?_⟩) (by rfl) (by rfl)
    subst e1 e2
    have eu : us = [.ref a] := by
      cases r with
      | cons r rr => cases rr; cases r; rfl
    subst eu
    have P1 := I1.pin (a, oe) (List.mem_append_left _ List.mem_cons_self)
    obtain ⟨vs, hvs⟩ := hf
    have hot : L2H.Hot1 (X.suite a ((a, oe) :: pn)).A (a, oe) := ⟨rfl, vs, hvs, hz.2.2 vs hvs⟩
    have hpin : L2H.PinOk (X.suite a ((a, oe) :: pn)).stack H1 s1 (a, oe) := ⟨P1.1, P1.2.1, fun hm => (List.mem_cons.mp (I1.stkSub a hm)).elim P1.2.2.1 P1.2.2.2.1, P1.2.2.2.2⟩
    have b := hb s1 [.ref a] I1.kIn (by rfl)
    have ru : L2H.RoomH 0 (X.suite a ((a, oe) :: pn)).A := ⟨O.room.dp, O.room.un⟩
    refine wpAny_call (codeAny_mono (F _ _ s1 H1 ⟨[.ref a], []⟩ (a, oe) c z Q ru hot hpin hz.zc ⟨vs, hvs⟩ hw I1.env0 b hq) fun r s' hq => ?_)
    cases r with
    | error e =>
      obtain ⟨_, _, _, _, _, _, _, _, _, _, _, _, w⟩ := hq
      exact w.elim
    | ok fl =>
      cases fl with
      | ret u => exact I1.after hq
      | next => exact False.elim hq
      | brk => exact False.elim hq
      | cont => exact False.elim hq
  exact Sn.PS.imp (ps_ret pc) fun D σ H h => h
end
end Hx

namespace Sn
open PySem PySem.Spec L2
variable {K : PySem.W.Frag} {F F' H H' G : Hp} {z : Pz} {ρ ρ' : List Sl} {σ σ' : St} {W : Str → St → Hp → Prop} {Φ : Nat → List D → Out} {α β : Type}
def isTupE : Expr → Bool
  | .Tuple .. => true
  | _ => false
def isCallE : Expr → Bool
  | .Call .. => true
  | _ => false
def isCompE : Expr → Bool
  | .ListComp .. => true
  | _ => false
/-- names that are stored together -/
def nmsB (g : Sg) : List Nat → List Expr → Bool
  | [], [] => true
  | i :: is, .Name x _ :: es => tgtB g i x && nmsB g is es
  | _, _ => false
def locS (g : Sg) (i : Nat) (x : Str) : Bool := decide (g.N[i]? = some x) && decide (g.sc.names.lookup x = some .local)
def parB (g : Sg) (is : List Nat) (ts es : List Expr) : Bool := match swpO g.sc ts es with
  | some none => nmsB g is ts && decide (ts.length ≤ 1000)
  | some (some names) => match is, ts, es with
    | [i, j], [.Name x _, .Name y _], [_, _] => locS g i x && (locS g j y && (decide (i ≠ j) && decide (names = [x, y])))
    | [i, j, l], [.Name x _, .Name y _, .Name u _], [_, _, _] => locS g i x && (locS g j y && (locS g l u && (decide (i ≠ j) && (decide (i ≠ l) && (decide (j ≠ l) && decide (names = [x, y, u]))))))
    | _, _, _ => false
  | none => false
/-- except c as n: return f(n) -/
def tryH : List ExceptHandler → Option (Str × Str × Str)
  | [.ExceptHandler (some (.Name c _)) (some n) [.Return (some (.Call (.Name f _) [.Name m _] kws _)) _] _] => if kws.isEmpty && decide (m = n) then some (c, n, f) else none
  | _ => none
theorem tryH_eq {hs : List ExceptHandler} {c n f : Str} (h : tryH hs = some (c, n, f)) : ∃ p1 p2 p3 p4 p5 p6, hs = [.ExceptHandler (some (.Name c p1)) (some n) [.Return (some (.Call (.Name f p2) [.Name n p3] [] p4)) p5] p6] := by
  unfold tryH at h
  split at h
  · split at h
    · rename_i k
      simp only [Bool.and_eq_true, decide_eq_true_eq] at k
      obtain ⟨k1, rfl⟩ := k
      cases List.isEmpty_iff.mp k1
      cases h
      exact ⟨_, _, _, _, _, _, rfl⟩
    · cases h
  · cases h
mutual
def chS (g : Sg) : Sx → Stmt → Bool
  | .set i x, .Assign [.Name n _] e _ => tgtB g i n && chE g x e
  | .setT t x, .Assign [tg] e _ => isTupE tg && (!isTupE e && (chT g t tg && chE g x e))
  | .par is xs, .Assign [.Tuple ts _ _] (.Tuple es _ _) _ => parB g is ts es && chEs g xs es
  | .put i k x, .Assign [.Subscript (.Name n _) b _] e _ => slotB g i n && (chE g k b && chE g x e)
  | .ex x, .Expr e _ => isCallE e && chE g x e
  | .ret x, .Return (some e) _ => chE g x e
  | .ret x, .Return none _ => isNil x
  | .raise c, .Raise (some (.Call (.Name n _) [.Constant (.str _) _ _] kws _)) cause _ => kws.isEmpty && (cause.isNone && (decide (n = c) && (glB g n && decide (n ∈ g.excs))))
  | .ite c a b, .If t xs ys _ => chE g c t && (chSs g a xs && chSs g b ys)
  | .whl c b, .While t xs ys _ => ys.isEmpty && (chE g c t && chSs g b xs)
  | .for_ t it b, .For tg iter xs ys _ => ys.isEmpty && (chI g it tg iter && (chT g t tg && chSs g b xs))
  | .brk, .Break _ => true
  | .cont, .Continue _ => true
  | .skip, .Pass _ => true
  | .try_ b x i, .Try body hs orelse fin _ => orelse.isEmpty && (fin.isEmpty && (match tryH hs with
    | some (c, n, f) => decide (c = "SpaceError") && (locS g i n && (dbgB n && (glB g f && (glB g c && (decide (g.en = some f) && chSs g b body)))))
    | none => false))
  | _, _ => false
def chSs (g : Sg) : Sx → List Stmt → Bool
  | .skip, [] => true
  | .seq a b, st :: sts => chS g a st && chSs g b sts
  | _, _ => false
end
structure SmOk (X : Cx) (g : Sg) (W0 : WX) (Φ : Nat → List D → Out) : Prop extends SgOk X g W0 Φ where
  hp : PassesOwn (model X.prog X.w) X.A X.env X.xe
  hs : X.stack = X.env :: X.outer
  hf : X.env.frame = some X.env.locals
  en : ∀ n, g.en = some n → Hx.EnAt X n
  exc : ∀ c, c ∈ g.excs → ∃ C, X.mg c = some (.ref C) ∧ ∀ pn xe m j p p2 pos, Gl X c → L2N.PMk (X.tr pn xe) (.Call (.Name c p) [.Constant (.str m) j p2] [] pos) (fun _ H Q => Q (.ref C) none H)
section
variable {X : Cx} {g : Sg} {W0 : WX}
theorem sw_comp {elt : Expr} {gs : List Comprehension} {scope : Scope} {pos : Pos} {y : Str} {py : Pos} {l : Nat} {env : PySem.Env} :
    ∃ b, swapsWith (.ListComp elt gs scope pos) (some (.Name y py)) l env = pure b ∧ (b = true → env.scope.names.lookup y = some .local) := by
  refine ⟨env.blockKind == .function && env.kindOf y == some .local && py.line == pos.line && !(scope.names.any fun (n, k) => n == y && (k == .local || k == .cell)), rfl, fun h => ?_⟩
  simp only [Bool.and_eq_true] at h
  exact eq_of_beq h.1.1.2
theorem sw_plain {e : Expr} {x : Ex} (h : chE g x e = true) (hc : isCompE e = false) (t : Option Expr) (l : Nat) (env : PySem.Env) : swapsWith e t l env = pure false := by
  cases e <;> first
    | rfl
    | (cases hc; done)
    | (exfalso; cases x <;> first | exact Bool.noConfusion (show false = true from h) | (rename_i d; cases d <;> exact Bool.noConfusion (show false = true from h)) | (rename_i d _ _; cases d <;> exact Bool.noConfusion (show false = true from h)) | (rename_i d _; cases d <;> exact Bool.noConfusion (show false = true from h)))
theorem sw_other {e tg : Expr} {x : Ex} (h : chE g x e = true) (ht : ∀ n p, tg ≠ .Name n p) (l : Nat) (env : PySem.Env) : swapsWithSole [tg] e l env = pure false := by
  by_cases hc : isCompE e = false
  · exact sw_plain h hc _ _ _
  · cases e <;> first | exact absurd rfl hc | skip
    cases tg <;> first | rfl | exact absurd rfl (ht _ _)
theorem sNms (O : SgOk X g W0 Φ) : ∀ {is : List Nat} {ts : List Expr}, nmsB g is ts = true → PGs X ts (gNs is) ∧ ts.length = is.length ∧ ∀ e ∈ ts, ∀ v p, e ≠ .Starred v p
  | [], [], _ => ⟨pgs_nil, rfl, fun e he => by cases he⟩
  | i :: is, e :: es, h => by
    cases e <;> first | exact Bool.noConfusion (show false = true from h) | skip
    rename_i x pos
    have h := show (tgtB g i x && nmsB g is es) = true from h
    rw [Bool.and_eq_true] at h
    obtain ⟨h1, h2, h3⟩ := O.tgt h.1
    obtain ⟨q1, q2, q3⟩ := sNms O h.2
    refine ⟨pgs_cons (pg_name O.nd h1 h2 h3) q1 (by rfl), by simp [q2], fun f hf => ?_⟩
    rcases List.mem_cons.mp hf with rfl | hf
    · intro v p e; cases e
    · exact q3 f hf
  | [], _ :: _, h => Bool.noConfusion (show false = true from h)
  | _ :: _, [], h => Bool.noConfusion (show false = true from h)
theorem SgOk.loc (O : SgOk X g W0 Φ) {i : Nat} {x : Str} (h : locS g i x = true) : X.N[i]? = some x ∧ X.env.scope.names.lookup x = some .local := by
  unfold locS at h
  simp only [Bool.and_eq_true, decide_eq_true_eq] at h
  exact ⟨by rw [O.N]; exact h.1, by rw [O.sc]; exact h.2⟩
theorem sPar (O : SgOk X g W0 Φ) {is : List Nat} {ts es : List Expr} {xs : Exs} {k k2 : Nat} {pt pt2 pos : Pos} (h : parB g is ts es = true) (E : PA X es (rdR X.K (wOf X W0) Φ xs)) :
    PS X (.Assign [.Tuple ts k pt] (.Tuple es k2 pt2) pos) (rdS X.K (wOf X W0) Φ (.par is xs)) := by
  have hk : X.env.scope.kind = .function := by rw [O.sc]; exact O.kind
  have sw : ∀ {r}, swpO g.sc ts es = some r → swappedStores [.Tuple ts k pt] (.Tuple es k2 pt2) X.env = pure r := fun {r} e => swp_ok hk (by rw [O.sc]; exact e)
  unfold parB at h
  split at h
  · rename_i e
    simp only [Bool.and_eq_true, decide_eq_true_eq] at h
    obtain ⟨q1, q2, q3⟩ := sNms O h.1
    exact sndS_parT O.calm E q1 q2 q3 h.2 (sw e)
  · rename_i names e
    have e := sw e
    split at h
    · rename_i i j x px y py a b e'
      simp only [Bool.and_eq_true, decide_eq_true_eq] at h
      obtain ⟨h1, h2, h3, rfl⟩ := h
      obtain ⟨a1, a2⟩ := O.loc h1
      obtain ⟨b1, b2⟩ := O.loc h2
      exact sndS_par2 O.calm O.nd a1 b1 h3 a2 b2 E e
    · rename_i i j l x px y py u pu a b c e'
      simp only [Bool.and_eq_true, decide_eq_true_eq] at h
      obtain ⟨h1, h2, h3, h4, h5, h6, rfl⟩ := h
      obtain ⟨a1, a2⟩ := O.loc h1
      obtain ⟨b1, b2⟩ := O.loc h2
      obtain ⟨c1, c2⟩ := O.loc h3
      exact sndS_par3 O.calm O.nd a1 b1 c1 h4 h5 h6 a2 b2 c2 E e
    · cases h
  · cases h
theorem Rep.unS (R : Rep K G z F ρ σ H) (i : Nat) : Rep K G z F (ρ.set i .un) σ H := by
  have back : ∀ {j : Nat} {s : Sl}, (ρ.set i .un)[j]? = some s → (s = .un ∧ ∃ s0, ρ[j]? = some s0) ∨ (i ≠ j ∧ ρ[j]? = some s) := fun {j s} h => by
    by_cases e : i = j
    · subst e
      have l : i < ρ.length := by
        have := (List.getElem?_eq_some_iff.mp h).1
        rw [List.length_set] at this; exact this
      rw [List.getElem?_set_self l] at h
      cases h
      exact .inl ⟨rfl, _, List.getElem?_eq_getElem l⟩
    · rw [List.getElem?_set_ne e] at h
      exact .inr ⟨e, h⟩
  refine ⟨by rw [List.length_set]; exact R.len, R.fh, R.gh, R.fg, R.hl, fun j s h => ?_, fun j k a o1 o2 => ?_, R.gt⟩
  · rcases back h with ⟨rfl, s0, h0⟩ | ⟨_, h0⟩
    · obtain ⟨o, q, _⟩ := R.sl j s0 h0
      exact ⟨o, q, trivial⟩
    · exact R.sl j s h0
  · have own : ∀ {j}, Own (ρ.set i .un) σ j a → Own ρ σ j a := fun {j} ⟨f, c, h, q⟩ => by
      rcases back h with ⟨e, _⟩ | ⟨_, h0⟩
      · cases e
      · exact ⟨f, c, h0, q⟩
    exact R.ap j k a (own o1) (own o2)
/-- the context of a try's body -/
theorem SmOk.toTry (O : SmOk X g W0 Φ) {pn : List (Addr × Obj)} {xe : Value → Shared → Prop} {W : WX} (tk : L2N.Takes (X.tr pn xe) W) (hp : PassesOwn (model X.prog X.w) X.A X.env xe) : SmOk (X.tr pn xe) g W Φ :=
  ⟨⟨O.N, O.sc, O.nd, O.calm, O.hu, O.kind, O.fn, O.free, O.nums, fun x f io h => by
      obtain ⟨k, a, fd, ps, q⟩ := O.fns x f io h
      exact ⟨k, a, fd, ps, ⟨q.ok, q.room, q.mg, q.kp, q.bd⟩⟩, tk⟩, hp, O.hs, O.hf, fun n h => by
      have q := O.en n h
      exact ⟨q.ex, q.room, q.K, q.dbg⟩, O.exc⟩
theorem sndS_try (O : SmOk X g W0 Φ) {b : Sx} {x n f : Str} {i : Nat} {body : List Stmt} {p1 p2 p3 p4 p5 p6 p7 : Pos} (hl : locS g i n = true) (hd : dbgB n = true) (hf : glB g f = true) (hc : glB g "SpaceError" = true) (he : g.en = some f)
    (ih : ∀ {X : Cx} {W0 : WX}, SmOk X g W0 Φ → PSs X body (rdS X.K (wOf X W0) Φ b)) :
    PS X (.Try body [.ExceptHandler (some (.Name "SpaceError" p1)) (some n) [.Return (some (.Call (.Name f p2) [.Name n p3] [] p4)) p5] p6] [] [] p7) (rdS X.K (wOf X W0) Φ (.try_ b x i)) := by
  have E := O.en f he
  obtain ⟨l1, l2⟩ := O.loc hl
  have gc := (O.gl hc).1
  have nm : Names X "SpaceError" (.ref (He.ga X.K "SpaceError")) := ⟨gc, (O.gl hc).2, .inl (E.K.gl _ (by decide +kernel))⟩
  obtain ⟨d1, d2⟩ := dbg_of hd
  refine sndS_of (L2N.ps_try_as (tb := fun W => rdS X.K (wOf X W) Φ b) (i := i) O.hs O.hf O.nd l1 l2 nm O.tk (fun W pn xe tk hp => ih (O.toTry tk hp)) (fun a oe cls d pn hz hfl => pss_one (Hx.ps_retX E hz hfl (O.gl hf).1 l1 (.inl l2) d1 d2))) fun G z F ρ D σ H R h => ?_
  refine ⟨G, z, F, ρ, R, ?_⟩
  simp only [evS] at h
  cases q : evS Φ b ρ with
  | ok fl ρ' => rw [q] at h; exact h
  | no => rw [q] at h; exact h
  | ex c ρ' =>
    rw [q] at h
    simp only [] at h
    split at h
    · rename_i hlt
      cases hw : enm c with
      | none => rw [hw] at h; exact h.elim
      | some w =>
        rw [hw] at h
        intro F' σ' H' s R' C hC
        obtain ⟨hm, _⟩ := Hx.enm_mem hw
        have hg := E.K.gl c (List.mem_append_left _ hm)
        rw [hg] at hC
        cases hC
        refine ⟨true, E.K.exm c hm, fun _ a ha => ⟨c, w, hw, rfl, rfl, List.getElem?_set_self (by rw [← R'.len]; exact hlt), fun H2 kp => ?_⟩, fun z => by cases z⟩
        have st : Stp F' H' F' H2 := ⟨.refl, fun a o e => by rw [kp a (by rw [R'.fh a o e]; simp)]; exact R'.fh a o e, R'.hl, kp, fun _ h => .inl h⟩
        exact h F' σ' H2 s ((R'.stp st).unS i) (.str w) (.str w)
    · exact h.elim
mutual
theorem sS : ∀ (s : Sx) {X : Cx} {g : Sg} {W0 : WX} (O : SmOk X g W0 Φ) {st : Stmt}, chS g s st = true → PS X st (rdS X.K (wOf X W0) Φ s)
  | .set i x, X, g, W0, O, st, h => by
    cases st <;> first | exact Bool.noConfusion (show false = true from h) | skip
    rename_i tgs e pos
    cases tgs <;> first | exact Bool.noConfusion (show false = true from h) | skip
    rename_i tg tgs
    cases tgs <;> first | exact Bool.noConfusion (show false = true from h) | (cases tg <;> exact Bool.noConfusion (show false = true from h)) | skip
    cases tg <;> first | exact Bool.noConfusion (show false = true from h) | skip
    rename_i n pn
    have h := show (tgtB g i n && chE g x e) = true from h
    rw [Bool.and_eq_true] at h
    obtain ⟨h1, h2⟩ := h
    obtain ⟨a1, a2, a3⟩ := O.tgt h1
    by_cases hc : isCompE e = false
    · exact sndS_set O.nd a1 a2 a3 (sE x O.toSgOk h2).1 (sw_plain h2 hc _ _ _)
    · cases e <;> first | exact absurd rfl hc | skip
      rename_i el gens scope cpos
      obtain ⟨b, eb, hb⟩ := sw_comp (elt := el) (gs := gens) (scope := scope) (pos := cpos) (y := n) (py := pn) (l := pos.line) (env := X.env)
      cases b with
      | false => exact sndS_set O.nd a1 a2 a3 (sE x O.toSgOk h2).1 eb
      | true =>
        cases x <;> first | exact Bool.noConfusion (show false = true from h2) | (rename_i d; cases d <;> exact Bool.noConfusion (show false = true from h2)) | (rename_i d _ _; cases d <;> exact Bool.noConfusion (show false = true from h2)) | (rename_i d _; cases d <;> exact Bool.noConfusion (show false = true from h2)) | skip
        rename_i elt tg it cd own
        obtain ⟨t, iter, ifs, rfl, q⟩ := lc_parts (fun O _ h => (sE elt O h).1) (fun O _ h => (sE cd O h).2) (fun O _ _ h => sI it O h) O.toSgOk h2
        have p := snd_setLc (pos := cpos) (spos := pos) O.calm O.nd a1 (hb rfl) eb q.blk q.own q.it q.tg q.cd q.elt q.fold
        rw [ownP_snd] at p
        exact sndS_set0 p
  | .setT t x, X, g, W0, O, st, h => by
    cases st <;> first | exact Bool.noConfusion (show false = true from h) | skip
    rename_i tgs e pos
    cases tgs <;> first | exact Bool.noConfusion (show false = true from h) | skip
    rename_i tg tgs
    cases tgs <;> first | exact Bool.noConfusion (show false = true from h) | skip
    have h := show (isTupE tg && (!isTupE e && (chT g t tg && chE g x e))) = true from h
    simp only [Bool.and_eq_true] at h
    obtain ⟨h1, h2, h3, h4⟩ := h
    have P := (sE x O.toSgOk h4).1
    have Q := sG O.toSgOk h3
    have s1 := sw_other h4 (tg := tg) (fun n p z => by subst z; cases h1) pos.line X.env
    cases tg <;> first | exact Bool.noConfusion (show false = true from h1) | skip
    exact sndS_setT P Q s1 (by cases e <;> first | rfl | exact Bool.noConfusion (show false = true from h2)) rfl
  | .par is xs, X, g, W0, O, st, h => by
    cases st <;> first | exact Bool.noConfusion (show false = true from h) | skip
    rename_i tgs e pos
    cases tgs <;> first | exact Bool.noConfusion (show false = true from h) | skip
    rename_i tg tgs
    cases tgs <;> first | exact Bool.noConfusion (show false = true from h) | (cases tg <;> exact Bool.noConfusion (show false = true from h)) | skip
    cases tg <;> first | exact Bool.noConfusion (show false = true from h) | skip
    cases e <;> first | exact Bool.noConfusion (show false = true from h) | skip
    rename_i ts k pt es k2 pt2
    have h := show (parB g is ts es && chEs g xs es) = true from h
    rw [Bool.and_eq_true] at h
    exact sPar O.toSgOk h.1 (sEs xs O.toSgOk h.2).r
  | .put i k x, X, g, W0, O, st, h => by
    cases st <;> first | exact Bool.noConfusion (show false = true from h) | skip
    rename_i tgs e pos
    cases tgs <;> first | exact Bool.noConfusion (show false = true from h) | skip
    rename_i tg tgs
    cases tgs <;> first | exact Bool.noConfusion (show false = true from h) | (cases tg <;> first | exact Bool.noConfusion (show false = true from h) | (rename_i o _ _; cases o <;> exact Bool.noConfusion (show false = true from h))) | skip
    cases tg <;> first | exact Bool.noConfusion (show false = true from h) | skip
    rename_i o b p
    cases o <;> first | exact Bool.noConfusion (show false = true from h) | skip
    rename_i n pn
    have h := show (slotB g i n && (chE g k b && chE g x e)) = true from h
    simp only [Bool.and_eq_true] at h
    obtain ⟨h1, h2, h3⟩ := h
    obtain ⟨a1, a2, a3, a4⟩ := O.slot h1
    exact sndS_put (by have := O.hu; omega) a1 a2 a3 a4 (sE k O.toSgOk h2).1 (sE x O.toSgOk h3).1 (noSlice_of h2) (sw_other h3 (by intro n p z; cases z) _ _)
  | .putSl _ _ _ _, X, g, W0, O, st, h => by cases st <;> exact Bool.noConfusion (show false = true from h)
  | .forK _ _ _, X, g, W0, O, st, h => by cases st <;> exact Bool.noConfusion (show false = true from h)
  | .try_ b x i, X, g, W0, O, st, h => by
    cases st <;> first | exact Bool.noConfusion (show false = true from h) | skip
    rename_i body hs orelse fin pos
    have h := show (orelse.isEmpty && (fin.isEmpty && (match tryH hs with
      | some (c, n, f) => decide (c = "SpaceError") && (locS g i n && (dbgB n && (glB g f && (glB g c && (decide (g.en = some f) && chSs g b body)))))
      | none => false))) = true from h
    cases q : tryH hs with
    | none => rw [q] at h; simp at h
    | some t =>
      obtain ⟨c, n, f⟩ := t
      rw [q] at h
      simp only [Bool.and_eq_true, decide_eq_true_eq] at h
      obtain ⟨h1, h2, rfl, h7, h8, h9, h10, h11, h12⟩ := h
      cases List.isEmpty_iff.mp h1
      cases List.isEmpty_iff.mp h2
      obtain ⟨p1, p2, p3, p4, p5, p6, rfl⟩ := tryH_eq q
      exact sndS_try O h7 h8 h9 h10 h11 fun O' => sSs b O' h12
  | .seq _ _, X, g, W0, O, st, h => by cases st <;> exact Bool.noConfusion (show false = true from h)
  | .ex x, X, g, W0, O, st, h => by
    cases st <;> first | exact Bool.noConfusion (show false = true from h) | skip
    rename_i e pos
    have h := show (isCallE e && chE g x e) = true from h
    rw [Bool.and_eq_true] at h
    have P := (sE x O.toSgOk h.2).1
    have h1 := h.1
    cases e <;> first | exact Bool.noConfusion (show false = true from h1) | skip
    exact sndS_ex P rfl
  | .ret x, X, g, W0, O, st, h => by
    cases st <;> first | exact Bool.noConfusion (show false = true from h) | skip
    rename_i v pos
    cases v with
    | none =>
      rw [isNil_of (show isNil x = true from h)]
      refine sndS_of ps_retN fun G z F ρ D σ H R h => ?_
      simp only [evS, evE, bnd_ok] at h
      exact EvS.here h R _ .non
    | some e => exact sndS_ret (sE x O.toSgOk (show chE g x e = true from h)).1
  | .raise c, X, g, W0, O, st, h => by
    cases st <;> first | exact Bool.noConfusion (show false = true from h) | skip
    rename_i ex cause pos
    cases ex <;> first | exact Bool.noConfusion (show false = true from h) | skip
    rename_i ex
    cases ex <;> first | exact Bool.noConfusion (show false = true from h) | skip
    rename_i fn vs kws cp
    cases fn <;> first | exact Bool.noConfusion (show false = true from h) | skip
    rename_i n p
    cases vs <;> first | exact Bool.noConfusion (show false = true from h) | skip
    rename_i v vs
    cases v <;> first | exact Bool.noConfusion (show false = true from h) | skip
    rename_i cst j p2
    cases cst <;> first | exact Bool.noConfusion (show false = true from h) | skip
    rename_i m
    cases vs <;> first | exact Bool.noConfusion (show false = true from h) | skip
    have h := show (kws.isEmpty && (cause.isNone && (decide (n = c) && (glB g n && decide (n ∈ g.excs))))) = true from h
    simp only [Bool.and_eq_true, decide_eq_true_eq] at h
    obtain ⟨h0, h1, rfl, h2, h3⟩ := h
    cases kws_nil h0
    cases cause with
    | some _ => cases h1
    | none =>
      obtain ⟨C, hC, mk⟩ := O.exc n h3
      exact sndS_raise O.calm O.tk hC (mk X.pn X.xe m j p p2 cp (O.gl h2).1)
  | .ite c a b, X, g, W0, O, st, h => by
    cases st <;> first | exact Bool.noConfusion (show false = true from h) | skip
    rename_i t xs ys pos
    have h := show (chE g c t && (chSs g a xs && chSs g b ys)) = true from h
    simp only [Bool.and_eq_true] at h
    exact sndS_ite (sE c O.toSgOk h.1).2 (sSs a O h.2.1) (sSs b O h.2.2)
  | .whl c b, X, g, W0, O, st, h => by
    cases st <;> first | exact Bool.noConfusion (show false = true from h) | skip
    rename_i t xs ys pos
    have h := show (ys.isEmpty && (chE g c t && chSs g b xs)) = true from h
    simp only [Bool.and_eq_true] at h
    cases ys with
    | nil => exact sndS_whl O.hp (sE c O.toSgOk h.2.1).2 (sSs b O h.2.2)
    | cons _ _ => cases h.1
  | .for_ t it b, X, g, W0, O, st, h => by
    cases st <;> first | exact Bool.noConfusion (show false = true from h) | skip
    rename_i tg iter xs ys pos
    have h := show (ys.isEmpty && (chI g it tg iter && (chT g t tg && chSs g b xs))) = true from h
    simp only [Bool.and_eq_true] at h
    cases ys with
    | nil => exact sndS_for O.hp O.calm (sI it O.toSgOk h.2.1) (sG O.toSgOk h.2.2.1) (sSs b O h.2.2.2) (folded_of (noSetI_of h.2.1) _)
    | cons _ _ => cases h.1
  | .brk, X, g, W0, O, st, h => by
    cases st <;> first | exact Bool.noConfusion (show false = true from h) | skip
    exact sndS_brk
  | .cont, X, g, W0, O, st, h => by
    cases st <;> first | exact Bool.noConfusion (show false = true from h) | skip
    exact sndS_cont
  | .skip, X, g, W0, O, st, h => by
    cases st <;> first | exact Bool.noConfusion (show false = true from h) | skip
    exact sndS_pass
theorem sSs : ∀ (s : Sx) {X : Cx} {g : Sg} {W0 : WX} (O : SmOk X g W0 Φ) {sts : List Stmt}, chSs g s sts = true → PSs X sts (rdS X.K (wOf X W0) Φ s)
  | .seq a b, X, g, W0, O, sts, h => by
    cases sts <;> first | exact Bool.noConfusion (show false = true from h) | skip
    rename_i st sts
    have h := show (chS g a st && chSs g b sts) = true from h
    rw [Bool.and_eq_true] at h
    exact sndSs_cons (sS a O h.1) (sSs b O h.2)
  | .skip, X, g, W0, O, sts, h => by
    cases sts <;> first | exact Bool.noConfusion (show false = true from h) | skip
    exact sndSs_nil
  | .set _ _, X, g, W0, O, sts, h => by cases sts <;> exact Bool.noConfusion (show false = true from h)
  | .setT _ _, X, g, W0, O, sts, h => by cases sts <;> exact Bool.noConfusion (show false = true from h)
  | .par _ _, X, g, W0, O, sts, h => by cases sts <;> exact Bool.noConfusion (show false = true from h)
  | .put _ _ _, X, g, W0, O, sts, h => by cases sts <;> exact Bool.noConfusion (show false = true from h)
  | .putSl _ _ _ _, X, g, W0, O, sts, h => by cases sts <;> exact Bool.noConfusion (show false = true from h)
  | .ex _, X, g, W0, O, sts, h => by cases sts <;> exact Bool.noConfusion (show false = true from h)
  | .ret _, X, g, W0, O, sts, h => by cases sts <;> exact Bool.noConfusion (show false = true from h)
  | .raise _, X, g, W0, O, sts, h => by cases sts <;> exact Bool.noConfusion (show false = true from h)
  | .ite _ _ _, X, g, W0, O, sts, h => by cases sts <;> exact Bool.noConfusion (show false = true from h)
  | .whl _ _, X, g, W0, O, sts, h => by cases sts <;> exact Bool.noConfusion (show false = true from h)
  | .for_ _ _ _, X, g, W0, O, sts, h => by cases sts <;> exact Bool.noConfusion (show false = true from h)
  | .forK _ _ _, X, g, W0, O, sts, h => by cases sts <;> exact Bool.noConfusion (show false = true from h)
  | .brk, X, g, W0, O, sts, h => by cases sts <;> exact Bool.noConfusion (show false = true from h)
  | .cont, X, g, W0, O, sts, h => by cases sts <;> exact Bool.noConfusion (show false = true from h)
  | .try_ _ _ _, X, g, W0, O, sts, h => by cases sts <;> exact Bool.noConfusion (show false = true from h)
end
end
end Sn

namespace Sn
open PySem PySem.Spec L2
/-- a def of the text -/
structure Df where
  x : Str
  N : List Str
  np : Nat
  args : Arguments
  body : List Stmt
  sc : Scope
/-- what all defs of a text see -/
structure Tb where
  fns : List (Str × Nat × Bool)
  nums : List (Str × Int)
  free : List Str
  excs : List Str
  en : Option Str := none
def sgOf (t : Tb) (d : Df) : Sg := ⟨d.N, d.sc, none, t.fns, t.nums, t.free, t.excs, t.en⟩
abbrev scB := scB0
theorem scB_ok {N ps : List Str} {sc : Scope} (h : scB N ps sc = true) : FnScope N ps sc := scB0_ok h
def dfB (t : Tb) (d : Df) (fd : Fd) : Bool := scB d.N (d.N.take d.np) d.sc && (decide (fd.ns = d.N.length) && (decide (fd.np = d.np) && (decide (d.np ≤ d.N.length) && ((!fd.io || decide (1 ≤ fd.np)) && chSs (sgOf t d) fd.body d.body))))
variable {P : Program} {w : World} {K : PySem.W.Frag} {mg : Str → Option Value} {base : Heap}
/-- what is known of the text's top -/
structure Fc (K : PySem.W.Frag) (mg : Str → Option Value) (t : Tb) (T : List Fd) (Ds : List Df) : Prop where
  free : ∀ x, x ∈ t.free → mg x = none
  nums : ∀ x i, (x, i) ∈ t.nums → ∃ u, mg x = some u ∧ RelV (.int i) u
  en : ∀ n, t.en = some n → ∃ f fd, (∀ P w base, Hx.FnX P w K mg base f fd) ∧ mg n = some (.ref f) ∧ PySem.W.keepIn K (.ref f) = true ∧ Binds K fd ["e"] [] ∧ Hx.EnK K mg ∧ (n == ("__debug__" : Str)) = false
  exc : ∀ c, c ∈ t.excs → ∃ C, mg c = some (.ref C) ∧ PySem.W.excIn K C [.type "ValueError", .type "Exception", .type "BaseException", .type "object"] "ValueError.__new__" = true ∧ PySem.W.keepIn K (.ref C) = true ∧
    PySem.W.subIn K (.ref C) (.type "BaseException") = some true ∧ PySem.W.typeIn K (.ref C) = some (.type "type") ∧ (c == ("__debug__" : Str)) = false
  fns : ∀ x f io, (x, f, io) ∈ t.fns → ∃ fd d a fdata, T[f]? = some fd ∧ fd.io = io ∧ dfB t d fd = true ∧ FunD K d.x d.x d.args d.body d.sc [] [] a fdata ∧ mg x = some (.ref a) ∧ Binds K fdata (d.N.take d.np) []

theorem map_v_get {args : List D} {i : Nat} {n : Nat} {s : Sl} (h : (args.map Sl.v ++ List.replicate n Sl.un)[i]? = some s) : (∃ d, args[i]? = some d ∧ s = .v d) ∨ (args.length ≤ i ∧ i < args.length + n ∧ s = .un) := by
  by_cases c : i < args.length
  · rw [List.getElem?_append_left (by simpa using c), List.getElem?_map] at h
    cases e : args[i]? with
    | none => rw [e] at h; cases h
    | some d => rw [e] at h; cases h; exact .inl ⟨d, rfl, rfl⟩
  · rw [List.getElem?_append_right (by simpa using c), List.getElem?_replicate] at h
    split at h
    · cases h; rename_i q; simp at q; exact .inr ⟨by omega, by omega, rfl⟩
    · cases h
theorem start_get {N : List Str} {vs : List V} {i : Nat} (h : i < N.length) (hl : vs.length ≤ N.length) : (start N vs)[i]? = some (vs[i]?) := by
  unfold L2.start
  by_cases c : i < vs.length
  · rw [List.getElem?_append_left (by simpa using c), List.getElem?_map, List.getElem?_eq_getElem c]; rfl
  · rw [List.getElem?_append_right (by simpa using c), List.getElem?_replicate, if_pos (by simp; omega), List.getElem?_eq_none (by omega)]
theorem start_len {N : List Str} {vs : List V} (hl : vs.length ≤ N.length) : (start N vs).length = N.length := by
  unfold L2.start; simp; omega
/-- the slots at the entry -/
theorem Rep.entry {G F H : Hp} {N : List Str} {vs : List V} {ds : List D} (A : Aft K G F F H) (e : AtAll K F vs ds) (hl : ds.length ≤ N.length) : Rep K G (fun _ => none) F (ds.map .v ++ List.replicate (N.length - ds.length) .un) (start N vs) H := by
  have hv : vs.length ≤ N.length := by rw [e.length]; exact hl
  refine ⟨by rw [start_len hv]; simp; omega, A.fh, A.gh, A.fg, A.hl, fun i s h => ?_, fun i j a o => ?_, A.gt⟩
  · have hi : i < N.length := by have := (List.getElem?_eq_some_iff.mp h).1; simp at this; omega
    refine ⟨_, start_get hi hv, ?_⟩
    rcases map_v_get h with ⟨d, hd, rfl⟩ | ⟨_, _, rfl⟩
    · obtain ⟨v, q1, q2⟩ := e.get hd
      exact ⟨v, q1, q2⟩
    · trivial
  · obtain ⟨f, c, h, _⟩ := o
    rcases map_v_get h with ⟨d, _, z⟩ | ⟨_, _, z⟩ <;> cases z
theorem Rep.entryIO {G F H : Hp} {N : List Str} {vs : List V} {ds xs : List D} {a : Addr} (A : Aft K G F F H) (hF : F a = none) (hG : G a = none) (hc : COk K F H a (.l xs)) (e : AtAll K F vs ds) (hl : ds.length + 1 ≤ N.length) :
    Rep K G (fun i => if i = 0 then some (.ref a) else none) F (.ow true (.l xs) :: (ds.map .v ++ List.replicate (N.length - (ds.length + 1)) .un)) (start N (.ref a :: vs)) H := by
  have hv : (V.ref a :: vs).length ≤ N.length := by simp [e.length]; omega
  have own : ∀ i b, Own (.ow true (.l xs) :: (ds.map .v ++ List.replicate (N.length - (ds.length + 1)) .un)) (start N (.ref a :: vs)) i b → i = 0 := fun i b o => by
    obtain ⟨f, c, h, _⟩ := o
    cases i with
    | zero => rfl
    | succ i =>
      rw [List.getElem?_cons_succ] at h
      rcases map_v_get h with ⟨d, _, z⟩ | ⟨_, _, z⟩ <;> cases z
  refine ⟨by rw [start_len hv]; simp; omega, A.fh, A.gh, A.fg, A.hl, fun i s h => ?_, fun i j b o1 o2 => by rw [own i b o1, own j b o2], A.gt⟩
  have hi : i < N.length := by have := (List.getElem?_eq_some_iff.mp h).1; simp at this; omega
  refine ⟨_, start_get hi hv, ?_⟩
  cases i with
  | zero =>
    cases h
    exact ⟨a, rfl, fun _ => rfl, hF, hG, hc⟩
  | succ i =>
    rw [List.getElem?_cons_succ] at h
    rcases map_v_get h with ⟨d, hd, rfl⟩ | ⟨_, _, rfl⟩
    · obtain ⟨v, q1, q2⟩ := e.get hd
      exact ⟨v, by simpa using q1, q2⟩
    · trivial
theorem Rep.end {G F F' H' : Hp} {z : Pz} {ρ : List Sl} {σ : St} (s : Sub F F') (R : Rep K G z F' ρ σ H') : Aft K G F F' H' := ⟨s, R.fh, R.gh, R.fg, R.hl, R.gt⟩
/-- the end of a def: what its body has left -/
theorem out_ok {Φ : Nat → List D → Out} {fd : Fd} {G F : Hp} {ρ0 : List Sl} {z : Pz} {io : Option Addr} {Q : VK} {E : XK} (hio : ∀ a, io = some a ↔ (fd.io = true ∧ z 0 = some (.ref a))) (hz : fd.io = true → ∃ a, z 0 = some (.ref a))
    (h : retQ K mg G F io (outF fd (evS Φ fd.body ρ0)) Q E) :
    EvS K G z (fun c _ H => ∀ C, mg c = some (.ref C) → E (.ref C) none H) F (evS Φ fd.body ρ0) (SPost K G { nx := fun _ H' => Q .non H', rt := Q }) := by
  -- the list that was handed in
  have fin : ∀ {ρ' : List Sl} {σ' : St} {F' H' : Hp} {xs : List D}, ioE fd ρ' = some xs → Rep K G z F' ρ' σ' H' → ∀ a, io = some a → (F' a = none ∧ COk K F' H' a (.l xs)) ∧ ∃ c, ρ'[0]? = some (.ow true c) ∧ σ'[0]? = some (some (.ref a)) := by
    intro ρ' σ' F' H' xs e R a ha
    obtain ⟨h1, h2⟩ := (hio a).mp ha
    unfold ioE at e
    rw [if_pos h1] at e
    split at e
    · rename_i ys q
      cases e
      obtain ⟨b, q1, q2, q3, q4, q5⟩ := R.ow q
      have := q2 rfl
      rw [h2] at this; cases this
      exact ⟨⟨q3, q5⟩, _, q, q1⟩
    · cases e
  cases q : evS Φ fd.body ρ0 with
  | no => rw [q] at h; exact h
  | ex c ρ' =>
    rw [q] at h
    simp only [outF] at h
    intro F' σ' H' s R C hC
    split at h
    · exact h.elim
    · exact h F' H' C (R.end s) hC
  | ok f ρ' =>
    rw [q] at h
    intro F' σ' H' s R
    cases f with
    | nx =>
      simp only [outF] at h
      split at h
      · rename_i xs e
        exact h F' H' .non (R.end s) .non fun a ha => (fin e R a ha).1
      · exact h.elim
    | bk => exact h.elim
    | ct => exact h.elim
    | rt r =>
      intro v hv
      simp only [outF] at h
      split at h
      · rename_i xs r' e1 e2
        refine h F' H' v (R.end s) ?_ fun a ha => (fin e1 R a ha).1
        cases r with
        | v d => simp only [endR] at e2; cases e2; exact hv
        | nw c =>
          simp only [endR] at e2; cases e2
          obtain ⟨a, rfl, q1, q2, q3, q4⟩ := hv
          refine ⟨a, rfl, q1, q2, fun ha => ?_, q4⟩
          obtain ⟨_, c0, g1, g2⟩ := fin e1 R a ha
          exact q3 0 ⟨_, _, g1, g2⟩
        | sl i =>
          have hv : σ'[i]? = some (some v) := hv
          simp only [endR] at e2
          split at e2
          · rename_i c q
            cases e2
            obtain ⟨a, k1, _, k3, k4, k5⟩ := R.ow q
            rw [hv] at k1; cases k1
            refine ⟨a, rfl, k3, k4, fun ha => ?_, k5⟩
            obtain ⟨_, c0, g1, g2⟩ := fin e1 R a ha
            have := R.ap i 0 a ⟨_, _, q, hv⟩ ⟨_, _, g1, g2⟩
            subst this
            rw [g1] at q; cases q
          · rename_i d q
            cases e2
            obtain ⟨v', k1, k2⟩ := R.va q
            rw [hv] at k1; cases k1
            exact k2
          · cases e2
      · exact h.elim
/-- every def of the text does what the trees say, at each level -/
theorem defs_ok {t : Tb} {T : List Fd} {Ds : List Df} (C : Fc K mg t T Ds) : ∀ (n : Nat) (x : Str) (f : Nat) (io : Bool) (fd : Fd) (d : Df) (a : Addr) (fdata : FuncData), (x, f, io) ∈ t.fns → T[f]? = some fd → fd.io = io → dfB t d fd = true → FunD K d.x d.x d.args d.body d.sc [] [] a fdata →
    FnOk P w K mg base (L2N.CX P w) n a fdata (d.N.take d.np) (spF K mg (sem T n) f io)
  | 0, x, f, io, fd, d, a, fdata, hx, hT, hio, hB, F => by
    have no : ∀ vs H Q E, ¬ spF K mg (sem T 0) f io vs H Q E := by
      intro vs H Q E h
      cases io with
      | false => obtain ⟨_, _, _, _, _, h⟩ := h; exact h
      | true => obtain ⟨_, _, _, _, _, _, _, _, _, _, _, _, h⟩ := h; exact h
    exact ⟨fun vs H Q E h => (no vs H Q E h).elim, fun A outer s H args us vs Q E _ _ _ _ h => (no vs H Q E h).elim⟩
  | n + 1, x, f, io, fd, d, a, fdata, hx, hT, hio, hB, F => by
    have ih := defs_ok C n
    unfold dfB at hB
    simp only [Bool.and_eq_true, decide_eq_true_eq] at hB
    obtain ⟨b1, b2, b3, b4, b5, b6⟩ := hB
    have S := scB_ok b1
    have lp : (d.N.take d.np).length = d.np := by rw [List.length_take]; omega
    have semE : ∀ ds, sem T (n + 1) f ds = runF (sem T n) fd ds := fun ds => by
      show (match T[f]? with | some fd => runF (sem T n) fd ds | none => .no) = _
      rw [hT]
    have lenOf : ∀ {ds G F io Q E}, retQ K mg G F io (sem T (n + 1) f ds) Q E → ds.length = d.np ∧ ∃ ρ0, startE fd ds = some ρ0 := by
      intro ds G F io Q E h
      rw [semE] at h
      unfold runF at h
      split at h
      · rename_i ρ0 e
        refine ⟨?_, ρ0, e⟩
        unfold startE at e
        split at e
        · rename_i q; rw [q, b3]
        · cases e
      · exact h.elim
    refine F.ok S (fun vs H Q E h => ?_) (fun cdv A outer s H vs Q E hr h => ?_)
    · rw [lp]
      cases io with
      | false =>
        obtain ⟨G, F, ds, _, e, h⟩ := h
        rw [e.length]; exact (lenOf h).1
      | true =>
        obtain ⟨G, F, ds, b, us, xs, _, rfl, _, _, _, e, h⟩ := h
        have := (lenOf h).1
        simp only [List.length_cons] at this ⊢
        rw [e.length]; exact this
    · refine ⟨rdS K (wOf (cxOf (L2N.CX P w) P w K mg base d.N d.x d.sc a cdv A outer s H E) fun cls dd _ H => E cls dd H) (sem T n) fd.body, ?_, ?_⟩
      · refine sSs fd.body (X := cxOf (L2N.CX P w) P w K mg base d.N d.x d.sc a cdv A outer s H E) (g := sgOf t d) ⟨⟨rfl, rfl, S.nd, rfl, (by have := hr.un; show (A.deeper (PyProof.Rows.envOfC d.x d.sc s.heap.objs.size a cdv)).units + 65 < cLine; omega), S.kind, fun _ => rfl, fun y hy => C.free y hy, fun y i hy => C.nums y i hy, fun y f' io' hy => ?_, L2N.takes_of rfl rfl rfl rfl⟩, passes_of rfl, rfl, rfl, fun m hm => ?_, fun c hc => ?_⟩ b6
        · obtain ⟨fd', d', a', fdata', q1, q3, q4, q5, q6, q7⟩ := C.fns y f' io' hy
          exact ⟨n, a', fdata', _, ih y f' io' fd' d' a' fdata' hy q1 q3 q4 q5, hr, q6, q5.kp, q7⟩
        · obtain ⟨f0, fd0, g1, g2, g3, g4, g5, g6⟩ := C.en m hm
          exact ⟨⟨f0, fd0, g1 _ _ _, g2, g3, g4⟩, (L2H.roomH_of hr).mono (Nat.zero_le _), g5, g6⟩
        · obtain ⟨Cc, q1, q2, q3, q4, q5, q6⟩ := C.exc c hc
          exact ⟨Cc, q1, fun pn xe m j p p2 pos hg => L2N.pmk_own PySem.F.excBase_ValueError q2 q1 q3 (raises_own q4 q5) hg q6⟩
      · cases hi : io with
        | false =>
          subst hi
          obtain ⟨G, F0, ds, Aa, e, h⟩ := h
          obtain ⟨hl, ρ0, hs⟩ := lenOf h
          rw [semE] at h
          unfold runF at h
          rw [hs] at h
          unfold startE at hs
          rw [if_pos (by rw [hl, b3]), hio, if_neg (by simp)] at hs
          cases hs
          have hle : ds.length ≤ d.N.length := by omega
          have R := Rep.entry (N := d.N) Aa e hle
          rw [← b2, hl.trans b3.symm] at R
          refine ⟨G, _, F0, _, R, ?_⟩
          exact out_ok (io := none) (fun b => ⟨(fun z => by cases z), (fun z => by have := z.1; rw [hio] at this; cases this)⟩) (fun z => by rw [hio] at z; cases z) h
        | true =>
          subst hi
          obtain ⟨G, F0, ds, b, us, xs, Aa, rfl, hF, hG, hc, e, h⟩ := h
          obtain ⟨hl, ρ0, hs⟩ := lenOf h
          rw [semE] at h
          unfold runF at h
          rw [hs] at h
          unfold startE at hs
          rw [if_pos (by rw [hl, b3]), hio, if_pos rfl] at hs
          cases hs
          have hle : ds.length + 1 ≤ d.N.length := by simp at hl; omega
          have R := Rep.entryIO (N := d.N) Aa hF hG hc e hle
          have hl2 : ds.length + 1 = fd.np := by simp at hl; omega
          rw [← b2, hl2] at R
          refine ⟨G, _, F0, _, R, ?_⟩
          exact out_ok (fun b' => ⟨fun z => by cases z; exact ⟨hio, rfl⟩, fun z => by have := z.2; simp at this; rw [this]⟩) (fun _ => ⟨b, rfl⟩) h
end Sn

namespace Sn
open PySem PySem.Spec PyProof.Rows L2
/-- the facts that a table asks of the head -/
def faOf (t : Tb) : List He.Fa := t.fns.map (fun q => He.Fa.glo q.1) ++ (t.excs.map He.Fa.glo ++ (t.excs.map He.Fa.exc ++ (t.nums.map (fun q => He.Fa.int q.1 q.2) ++ (t.free.map He.Fa.free ++ match t.en with | some n => Hx.ask.map He.Fa.glo ++ [He.Fa.free "ValueError", He.Fa.glo n] | none => []))))
/-- what is asked of the classes of errors -/
def excB (K : PySem.W.Frag) (D : Addr) : Bool := He.eqO (PySem.W.findIn K (.ref D) "__getattribute__") (some (some (.builtin "BaseException.__getattribute__"))) && (He.eqO (PySem.W.findIn K (.ref D) "__getattr__") (some none) && (decide (PySem.W.subIn K (.ref D) (.type "BaseException") = some true) &&
  (PySem.W.hasDictIn K D && (He.eqO (PySem.W.findIn K (.ref D) "__class__") (some (some (.builtin "object.__class__"))) && (He.eqO (PySem.W.specialIn K (.builtin "object.__class__") "__get__") (some (some (.builtin "getset_descriptor.__get__"))) &&
  (decide (PySem.W.takesIn K (.builtin "object.__class__") = some true) && decide (PySem.W.mroIn K D (.type "object") = some true)))))))
theorem excB_ok {K : PySem.W.Frag} {D : Addr} (h : excB K D = true) : ExcC K D := by
  unfold excB at h
  simp only [Bool.and_eq_true, decide_eq_true_eq] at h
  obtain ⟨h1, h2, h3, h4, h5, h6, h7, h8⟩ := h
  exact ⟨He.eqO_ok h1, He.eqO_ok h2, h3, h4, He.eqO_ok h5, He.eqO_ok h6, h7, h8⟩
def enKB (K : PySem.W.Frag) : Bool := ers.all fun c0 => excB K (He.ga K c0) && ((Hx.ask.all fun c => decide (PySem.W.kitOne K (.ref (He.ga K c0)) (.ref (He.ga K c)) = some (Hx.isRes c0 c))) &&
  (decide (PySem.W.kitOne K (.ref (He.ga K c0)) (.type "ValueError") = some true) && decide (PySem.W.exmOne K (.ref (He.ga K c0)) (.ref (He.ga K "SpaceError")) = some true)))
def exB (t : Tb) (K : PySem.W.Frag) : Bool := if t.en.isSome = true then enKB K else true
/-- the hook: the head's facts, and one more Bool -/
def obsM (fa : List He.Fa) (fn : List He.DefD) (ex : PySem.W.Frag → Bool) (K : PySem.W.Frag) : He.AlD × Bool := (He.obsD fa fn K, ex K)
def obsMG (n : Nat) (fa : List He.Fa) (fn : List He.DefD) (ex : PySem.W.Frag → Bool) (g : Addr → Option Obj) : He.AlD × Bool := obsM fa fn ex (He.frG g (He.asD g n))
structure SaysM (fa : List He.Fa) (fn : List He.DefD) (ex : PySem.W.Frag → Bool) (K : PySem.W.Frag) : Prop where
  d : He.SaysD fa fn K
  ex : ex K = true
def hookM (n : Nat) (fa : List He.Fa) (fn : List He.DefD) (ex : PySem.W.Frag → Bool) : PySem.W.Hook where
  α := He.AlD × Bool
  obs := fun s => obsMG n fa fn ex s.heap.get?
  val := fun _ => (He.valD fn, true)
  says := fun _ h => ∃ K : PySem.W.Frag, K.In h ∧ SaysM fa fn ex K
  of := fun _ _ e => ⟨_, He.frG_in, congrArg Prod.fst e, congrArg Prod.snd e⟩
  keeps := fun _ _ _ ⟨K, hK, c⟩ k => ⟨K, PySem.W.Frag.In.keeps hK k, c⟩
theorem obsMG_eq {n : Nat} {fa : List He.Fa} {fn : List He.DefD} {ex : PySem.W.Frag → Bool} {g : Addr → Option Obj} {s : Shared} (h : ∀ a, g a = s.heap.get? a) : obsMG n fa fn ex g = (hookM n fa fn ex).obs s := by
  have e : g = s.heap.get? := funext h
  rw [e] <;> rfl
def toD (d : Df) : He.DefD := ⟨(d.x, none), d.x, d.x, d.args, d.body, d.sc, [], []⟩
def fnOfT (Ds : List Df) : List He.DefD := Ds.map toD
/-- a def takes its arguments by place -/
def Bd (d : Df) : Prop := ∀ (kV doc pm : Value) (an : Option Addr) (cdv ct : Value) (us : List Value), us.length = (d.N.take d.np).length →
  bindArgs (PySem.W.fnOf d.x d.x d.args d.body d.sc .none kV doc pm an cdv ct) ⟨us, []⟩ = pure ((d.N.take d.np).zip us)
def AllB : List Df → Prop
  | [] => True
  | d :: ds => Bd d ∧ AllB ds
theorem AllB.get : ∀ {Ds : List Df} {i : Nat} {d : Df}, AllB Ds → Ds[i]? = some d → Bd d
  | [], _, _, _, h => by cases h
  | _ :: _, 0, _, h, e => by cases e; exact h.1
  | _ :: _, i + 1, _, h, e => AllB.get (i := i) h.2 (by simpa using e)
/-- the def that names an error -/
def enOk (t : Tb) (Ds : List Df) : Bool := match t.en with
  | none => true
  | some n => (match Ds.find? (fun d => decide (d.x = n)) with
    | some d => Hx.en1B d.x d.sc d.body && (decide (d.N.take d.np = [("e" : Str)]) && (!(n == ("__debug__" : Str)) && (decide (("isinstance" : Str) ∈ t.free) && decide (("zip" : Str) ∈ t.free))))
    | none => false)
def okB (t : Tb) (T : List Fd) (Ds : List Df) : Bool := (t.fns.all fun q => match T[q.2.1]?, Ds.find? (fun d => decide (d.x = q.1)) with
    | some fd, some d => decide (fd.io = q.2.2) && dfB t d fd
    | _, _ => false) && (enOk t Ds && t.excs.all fun c => (c == ("__debug__" : Str)) == false)
theorem okB_fn {t : Tb} {T : List Fd} {Ds : List Df} (h : okB t T Ds = true) {x : Str} {f : Nat} {io : Bool} (m : (x, f, io) ∈ t.fns) :
    ∃ fd d, T[f]? = some fd ∧ Ds.find? (fun d => decide (d.x = x)) = some d ∧ (∃ i : Nat, Ds[i]? = some d) ∧ fd.io = io ∧ d.x = x ∧ dfB t d fd = true := by
  unfold okB at h
  rw [Bool.and_eq_true, List.all_eq_true] at h
  have h1 := h.1 _ m
  simp only at h1
  split at h1
  · rename_i fd d e1 e2
    simp only [Bool.and_eq_true, decide_eq_true_eq] at h1
    exact ⟨fd, d, e1, e2, List.mem_iff_getElem?.mp (List.mem_of_find?_eq_some e2), h1.1, by simpa using List.find?_some e2, h1.2⟩
  · cases h1
theorem okB_exc {t : Tb} {T : List Fd} {Ds : List Df} (h : okB t T Ds = true) {c : Str} (m : c ∈ t.excs) : (c == ("__debug__" : Str)) = false := by
  unfold okB at h
  rw [Bool.and_eq_true, Bool.and_eq_true, List.all_eq_true, List.all_eq_true] at h
  simpa using h.2.2 _ m
theorem okB_en {t : Tb} {T : List Fd} {Ds : List Df} (h : okB t T Ds = true) {n : Str} (m : t.en = some n) : ∃ d, (∃ i : Nat, Ds[i]? = some d) ∧ d.x = n ∧ Hx.en1B d.x d.sc d.body = true ∧ d.N.take d.np = [("e" : Str)] ∧ (n == ("__debug__" : Str)) = false ∧ ("isinstance" : Str) ∈ t.free ∧ ("zip" : Str) ∈ t.free := by
  unfold okB at h
  rw [Bool.and_eq_true, Bool.and_eq_true] at h
  have h1 := h.2.1
  unfold enOk at h1
  rw [m] at h1
  simp only at h1
  split at h1
  · rename_i d e
    simp only [Bool.and_eq_true, decide_eq_true_eq, Bool.not_eq_true'] at h1
    exact ⟨d, List.mem_iff_getElem?.mp (List.mem_of_find?_eq_some e), by simpa using List.find?_some e, h1.1, h1.2.1, h1.2.2.1, h1.2.2.2.1, h1.2.2.2.2⟩
  · cases h1
variable {P : Program} {w : World} {K : PySem.W.Frag} {mg : Str → Option Value}
theorem mkFc {t : Tb} {T : List Fd} {Ds : List Df} {h : Heap} (X : K.In h) (G : h.Ns mainGlobals mg) (c' : SaysM (faOf t) (fnOfT Ds) (exB t) K) (hok : okB t T Ds = true) (hb : AllB Ds) : Fc K mg t T Ds := by
  have c := c'.d
  have fre : ∀ x, x ∈ t.free → mg x = none := fun x hx => He.free_ok X G (He.SaysD.facts c (f := .free x) (by unfold faOf; simp only [List.mem_append, List.mem_map]; exact .inr (.inr (.inr (.inr (.inl ⟨x, hx, rfl⟩))))))
  refine ⟨fre, fun x i hx => ?_, fun n hn => ?_, fun e he => ?_, fun x f io hx => ?_⟩
  · obtain ⟨u, hu⟩ := He.int_ok X G (He.SaysD.facts c (f := .int x i) (by unfold faOf; simp only [List.mem_append, List.mem_map]; exact .inr (.inr (.inr (.inl ⟨_, hx, rfl⟩)))))
    exact ⟨_, hu, ⟨u, rfl⟩⟩
  · obtain ⟨d, ⟨j, ej⟩, rfl, h1, h2, h3, h4, h5⟩ := okB_en hok hn
    obtain ⟨fd, FD⟩ := c.def_ j (d := toD d) (by unfold fnOfT; rw [List.getElem?_map, ej]; rfl)
    have more : ∀ f : He.Fa, f ∈ Hx.ask.map He.Fa.glo ++ [He.Fa.free "ValueError", He.Fa.glo d.x] → f ∈ faOf t := fun f hf => by
      unfold faOf
      rw [hn]
      simp only [List.mem_append]
      exact .inr (.inr (.inr (.inr (.inr (List.mem_append.mp hf)))))
    have hx := c'.ex
    unfold exB at hx
    rw [hn] at hx
    have hx : enKB K = true := hx
    unfold enKB at hx
    rw [List.all_eq_true] at hx
    have each : ∀ c0 ∈ ers, ExcC K (He.ga K c0) ∧ (∀ y ∈ Hx.ask, PySem.W.kitOne K (.ref (He.ga K c0)) (.ref (He.ga K y)) = some (Hx.isRes c0 y)) ∧ PySem.W.kitOne K (.ref (He.ga K c0)) (.type "ValueError") = some true ∧ PySem.W.exmOne K (.ref (He.ga K c0)) (.ref (He.ga K "SpaceError")) = some true := fun c0 h0 => by
      have q := hx c0 h0
      simp only [Bool.and_eq_true, List.all_eq_true, decide_eq_true_eq] at q
      exact ⟨excB_ok q.1, q.2.1, q.2.2.1, q.2.2.2⟩
    have EK : Hx.EnK K mg := ⟨fun y hy => He.glo_ok X G (He.SaysD.facts c (f := .glo y) (more _ (List.mem_append_left _ (List.mem_map.mpr ⟨y, hy, rfl⟩)))), He.free_ok X G (He.SaysD.facts c (f := .free "ValueError") (more _ (List.mem_append_right _ (by simp)))),
      fun y hy => (each y hy).1, fun y hy => (each y hy).2.1, fun y hy => (each y hy).2.2.1, fun y hy => (each y hy).2.2.2⟩
    have gn : mg d.x = some (.ref (He.ga K d.x)) := He.glo_ok X G (He.SaysD.facts c (f := .glo d.x) (more _ (List.mem_append_right _ (by simp))))
    have bd := FunD.bindsN FD (hb.get ej)
    rw [h2] at bd
    exact ⟨_, fd, fun P w base => Hx.fn_ofX FD h1 EK (fre _ h4) (fre _ h5), gn, FD.kp, bd, EK, h3⟩
  · have g := He.glo_ok X G (He.SaysD.facts c (f := .glo e) (by unfold faOf; simp only [List.mem_append, List.mem_map]; exact .inr (.inl ⟨_, he, rfl⟩)))
    obtain ⟨q1, q2, q3, q4⟩ := He.exc_ok (He.SaysD.facts c (f := .exc e) (by unfold faOf; simp only [List.mem_append, List.mem_map]; exact .inr (.inr (.inl ⟨_, he, rfl⟩))))
    exact ⟨_, g, q1, q2, q3, q4, okB_exc hok he⟩
  · have g := He.glo_ok X G (He.SaysD.facts c (f := .glo x) (by unfold faOf; simp only [List.mem_append, List.mem_map]; exact .inl ⟨_, hx, rfl⟩))
    obtain ⟨fd, d, e1, _, ⟨j, e2⟩, e3, e4, e5⟩ := okB_fn hok hx
    subst e4
    obtain ⟨fdata, FD⟩ := c.def_ j (d := toD d) (by unfold fnOfT; rw [List.getElem?_map, e2]; rfl)
    exact ⟨fd, d, _, fdata, e1, e3, e5, FD, g, FunD.bindsN FD (hb.get e2)⟩
theorem atInts {F : Hp} : ∀ ns : List Int, AtAll K F (ns.map V.int) (ns.map PyData.int)
  | [] => .nil
  | n :: ns => .cons (.int n) (atInts ns)
/-- the law's end, by a plain fact about the trees -/
theorem law_F {t : Tb} {T : List Fd} {Ds : List Df} {h : Heap} {k li n : Nat} {fa : Addr} {dl : Df} (X : K.In h) (G : h.Ns mainGlobals mg) (c' : SaysM (faOf t) (fnOfT Ds) (exB t) K) (hok : okB t T Ds = true) (hb : AllB Ds)
    (hli : (("law" : Str), li, false) ∈ t.fns) (hdl : Ds.find? (fun d => decide (d.x = ("law" : Str))) = some dl) (hps : dl.N.take dl.np = [("script" : Str)]) (hmg : mg ("law" : Str) = some (.ref fa))
    (hn : n ≤ sizeLine) (M : ∀ ns : List Int, ns.length ≤ n → ∃ io, sem T k li [scr (ns.map .int)] = .ret (.v (.bool true)) io) :
    ∃ (K : PySem.W.Frag) (fd : FuncData) (sp : Sp), K.In h ∧ (∀ (s : Shared) (u : Value), BindsTo s fd ⟨[u], []⟩ [("script", u)]) ∧
      (∀ (H : Hp) (a : Addr) (ns : List Int), ns.length ≤ n → Only H → SqL K H a (ns.map V.int) → sp [.ref a] H (fun v _ => v = .bl true) fun _ _ _ => False) ∧
      ∀ base : Heap, K.In base → base.Ns mainGlobals mg → FnOk P w K mg base (L2N.CX P w) k fa fd ["script"] sp := by
  have C := mkFc X G c' hok hb
  have c := c'.d
  obtain ⟨fd, d, e1, e2, ⟨j, ej⟩, e3, e4, e5⟩ := okB_fn hok hli
  rw [hdl] at e2; cases e2
  obtain ⟨fdata, FD⟩ := c.def_ j (d := toD dl) (by unfold fnOfT; rw [List.getElem?_map, ej]; rfl)
  have g := He.glo_ok X G (He.SaysD.facts c (f := .glo ("law" : Str)) (by unfold faOf; simp only [List.mem_append, List.mem_map]; exact .inl ⟨_, hli, rfl⟩))
  rw [hmg] at g
  have ea : fa = He.ga K "law" := by injection g with g; injection g
  have bA := fun s us (hl : us.length = (dl.N.take dl.np).length) => FunD.bindsA (ps := dl.N.take dl.np) FD (hb.get ej) s us hl
  refine ⟨K, fdata, spF K mg (sem T k) li false, X, fun s u => ?_, fun H a ns hl hO hS => ?_, fun base _ _ => ?_⟩
  · have := bA s [u] (by rw [hps]; rfl)
    rw [hps] at this
    exact this
  · obtain ⟨io, hM⟩ := M ns hl
    obtain ⟨F, f1, f2, f3⟩ : ∃ F : Hp, Sub F H ∧ SqL K F a (ns.map V.int) ∧ HLen F := by
      rcases hS with z | z
      · refine ⟨fun b => if b = a then H b else none, fun b o q => ?_, .inl ?_, fun b xs q => ?_⟩
        · simp only at q
          split at q
          · exact q
          · cases q
        · unfold Rd at z ⊢
          simp only [if_pos]
          exact z
        · have eb : b = a := by
            by_cases e : b = a
            · exact e
            · unfold Rd at q
              simp only [if_neg e] at q
              rcases q with (q | ⟨_, q⟩) | (q | ⟨_, q⟩) <;> cases q
          subst eb
          have rd : Rd H b (.lst xs) ∨ Rd H b (.tup xs) := by
            unfold Rd at q ⊢
            simpa using q
          have ex : xs = ns.map V.int := by
            rcases hO b with p | ⟨o, ys, p⟩
            · unfold Rd at z; rw [p] at z; rcases z with z | ⟨_, z⟩ <;> cases z
            · unfold Rd at z rd
              rw [p] at z rd
              rcases z with z | ⟨_, z⟩
              · cases z
              · cases z
                rcases rd with (q | ⟨_, q⟩) | (q | ⟨_, q⟩) <;> cases q
                rfl
          rw [ex, List.length_map]
          exact Nat.le_trans hl hn
      · exact ⟨fun _ => none, (fun b o q => by cases q), .inr z, fun b xs q => by unfold Rd at q; rcases q with (q | ⟨_, q⟩) | (q | ⟨_, q⟩) <;> cases q⟩
    refine ⟨fun _ => none, F, [scr (ns.map .int)], ⟨.refl, f1, (fun b o z => by cases z), fun _ _ => rfl, f3, fun _ _ z => by cases z⟩, .cons (.scr f2 (atInts ns)) .nil, ?_⟩
    rw [hM]
    intro F' H' v A r _
    cases r
    rfl
  · rw [ea, ← hps, ← e4]
    have := defs_ok (P := P) (w := w) (base := base) C k dl.x li false fd dl (He.ga K dl.x) fdata (by rw [e4]; exact hli) e1 e3 e5 FD
    exact this
/-- a law over the whole, with exceptions let out nowhere -/
theorem walkW {l : PySem.W.OpenLaw} {n k : Nat} {q : Program} {loose : List Str} {XP : (Str → Option Value) → Heap → Prop} {YP : World → Heap → Prop} {d : DefRec} {x : Str}
    (hn : l.most = some n) (hn2 : n ≤ sizeLine) (hdf : d.params.defaults = []) (hr : Room k callerA)
    (F : ∀ (w : World) (mg : Str → Option Value) (fa : Addr) (h : Heap), YP w h → h.Ns mainGlobals mg → mg d.name = some (.ref fa) →
      ∃ (K : PySem.W.Frag) (fd : FuncData) (sp : Sp), K.In h ∧ (∀ (s : Shared) (u : Value), BindsTo s fd ⟨[u], []⟩ [(x, u)]) ∧
        (∀ (H : Hp) (a : Addr) (ns : List Int), ns.length ≤ n → Only H → SqL K H a (ns.map V.int) → sp [.ref a] H (fun v _ => v = .bl true) fun _ _ _ => False) ∧
        ∀ base : Heap, K.In base → base.Ns mainGlobals mg → FnOk l.prog w K mg base (L2N.CX l.prog w) k fa fd [x] sp) :
    PySem.W.WalkO q loose XP YP l.row.toRowW d [] (fun f vs => PySem.call f vs) := by
  refine Att.attach_call hn hdf fun w s0 s1 mg mb fa o pm cd doc a vs ns G Y ho hd hcd hmg hobj hints hlen hg => ?_
  obtain ⟨K, fd, sp, k1, k2, k3, k4⟩ := F w mg fa _ Y G.T.g hmg
  refine law_call k1 G.T.g G.T.b G.T.builtins G.T.nolimit hg hobj hints (Nat.le_trans hlen hn2) hr k4 k2 (fun H hO hS => k3 H a ns hlen hO hS) fun H e s' hc => ?_
  obtain ⟨_, _, _, _, _, _, _, _, _, _, _, _, z⟩ := hc
  exact z
end Sn

namespace Sn
open PySem L2
variable {Φ : Nat → List D → Out} {ρ : En}
theorem sem_at {T : List Fd} {n f : Nat} {args : List D} {fd : Fd} (h : T[f]? = some fd) : sem T (n+1) f args = runF (sem T n) fd args := by
  show (match T[f]? with | some fd => runF (sem T n) fd args | none => .no) = _
  rw [h]
def gV (s : Option Sl) (i : Nat) (ρ : En) : Res R := match s with
  | some (.v d) => .ok (.v d) ρ
  | some (.ow _ _) => .ok (.sl i) ρ
  | _ => .no
def vS : Option Sl → Option D
  | some (.ow _ (.l xs)) => some (.list xs)
  | some (.v d) => some d
  | _ => none
def vC : Option Sl → Option C
  | some (.ow _ c) => some c
  | _ => none
def fS (s : Option Sl) (i : Nat) (ρ : En) : Res D := match s with
  | some (.ow false (.l xs)) => .ok (.list xs) (ρ.set i (.v (.list xs)))
  | some (.v d) => .ok d ρ
  | _ => .no
/-- the slot can be stored -/
def Frs : Option Sl → Bool
  | some (.ow true _) => false
  | some .lk => false
  | some _ => true
  | none => false
/-- the slot can be a comprehension's own -/
def Fre : Option Sl → Bool
  | some (.ow _ _) => false
  | some .lk => false
  | none => false
  | _ => true
@[simp] theorem gV_v (d : D) (i : Nat) (ρ : En) : gV (some (.v d)) i ρ = .ok (.v d) ρ := rfl
@[simp] theorem gV_ow (f : Bool) (c : C) (i : Nat) (ρ : En) : gV (some (.ow f c)) i ρ = .ok (.sl i) ρ := rfl
@[simp] theorem vS_v (d : D) : vS (some (.v d)) = some d := rfl
@[simp] theorem vS_ow (f : Bool) (xs : List D) : vS (some (.ow f (.l xs))) = some (.list xs) := rfl
@[simp] theorem vC_v (d : D) : vC (some (.v d)) = none := rfl
@[simp] theorem vC_ow (f : Bool) (c : C) : vC (some (.ow f c)) = some c := rfl
@[simp] theorem fS_v (d : D) (i : Nat) (ρ : En) : fS (some (.v d)) i ρ = .ok d ρ := rfl
@[simp] theorem fS_ow (xs : List D) (i : Nat) (ρ : En) : fS (some (.ow false (.l xs))) i ρ = .ok (.list xs) (ρ.set i (.v (.list xs))) := rfl
@[simp] theorem Frs_un : Frs (some .un) = true := rfl
@[simp] theorem Frs_v (d : D) : Frs (some (.v d)) = true := rfl
@[simp] theorem Frs_ow (c : C) : Frs (some (.ow false c)) = true := rfl
@[simp] theorem Fre_un : Fre (some .un) = true := rfl
@[simp] theorem Fre_v (d : D) : Fre (some (.v d)) = true := rfl
@[simp] theorem vw_v (ρ : En) (d : D) : vw ρ (.v d) = some d := rfl
@[simp] theorem vw_nw (ρ : En) (xs : List D) : vw ρ (.nw (.l xs)) = some (.list xs) := rfl
@[simp] theorem vw_sl (ρ : En) (i : Nat) : vw ρ (.sl i) = vS ρ[i]? := by
  unfold vw vS; dsimp only <;> rcases ρ[i]? with _ | (_ | _ | ⟨_, (_ | _ | _)⟩ | _) <;> rfl
@[simp] theorem vwC_v (ρ : En) (d : D) : vwC ρ (.v d) = none := rfl
@[simp] theorem vwC_nw (ρ : En) (c : C) : vwC ρ (.nw c) = none := rfl
@[simp] theorem vwC_sl (ρ : En) (i : Nat) : vwC ρ (.sl i) = vC ρ[i]? := by
  unfold vwC vC; dsimp only <;> rcases ρ[i]? with _ | (_ | _ | _ | _) <;> rfl
@[simp] theorem opr_v (d : D) (ρ : En) : opr (.v d) ρ = .ok (.v d) ρ := rfl
@[simp] theorem opr_nw (xs : List D) (ρ : En) : opr (.nw (.l xs)) ρ = .ok (.v (.list xs)) ρ := rfl
@[simp] theorem opr_sl (i : Nat) (ρ : En) : opr (.sl i) ρ = .ok (.sl i) ρ := rfl
@[simp] theorem frz_v (d : D) (ρ : En) : frz (.v d) ρ = .ok d ρ := rfl
@[simp] theorem frz_nw (xs : List D) (ρ : En) : frz (.nw (.l xs)) ρ = .ok (.list xs) ρ := rfl
@[simp] theorem frz_sl (i : Nat) (ρ : En) : frz (.sl i) ρ = fS ρ[i]? i ρ := by
  unfold frz fS; dsimp only <;> rcases ρ[i]? with _ | (_ | _ | ⟨(_ | _), (_ | _ | _)⟩ | _) <;> rfl
theorem setS_eq (i : Nat) (s : Sl) (ρ : En) : setS i s ρ = if Frs ρ[i]? = true then .ok () (ρ.set i s) else .no := by
  unfold setS Frs; rcases ρ[i]? with _ | (_ | _ | ⟨(_ | _), (_ | _ | _)⟩ | _) <;> rfl
theorem setS_k {i : Nat} {s : Sl} {ρ : En} (h : Frs ρ[i]? = true) : setS i s ρ = .ok () (ρ.set i s) := by rw [setS_eq, if_pos h]
@[simp] theorem setR_v (i : Nat) (d : D) (ρ : En) : setR i (.v d) ρ = setS i (.v d) ρ := rfl
@[simp] theorem setR_nw (i : Nat) (c : C) (ρ : En) : setR i (.nw c) ρ = setS i (.ow false c) ρ := rfl
theorem freeE_cons (ρ : En) (i : Nat) (r : List Nat) : freeE ρ (i :: r) = (Fre ρ[i]? && freeE ρ r) := by
  unfold freeE; rw [List.all_cons]; congr 1
@[simp] theorem freeE_nil (ρ : En) : freeE ρ [] = true := rfl
@[simp] theorem toB_b (b : Bool) (ρ : En) : toB (.v (.bool b)) ρ = .ok b ρ := rfl
@[simp] theorem toI_i (i : Int) (ρ : En) : toI (.v (.int i)) ρ = .ok (some i) ρ := rfl
@[simp] theorem opt_some {α : Type} (a : α) (ρ : En) : opt (some a) ρ = .ok a ρ := rfl
@[simp] theorem noX_k {α : Type} (a : α) (ρ : En) : noX (.ok a ρ) = .ok a ρ := rfl
@[simp] theorem outR_v (d : D) (io : List D) (ρ : En) : outR (.ret (.v d) io) ρ = .ok (.v d) ρ := rfl
@[simp] theorem outR_nw (c : C) (io : List D) (ρ : En) : outR (.ret (.nw c) io) ρ = .ok (.nw c) ρ := rfl
@[simp] theorem outR_ex (c : Str) (ρ : En) : outR (.ex c) ρ = .ex c ρ := rfl
@[simp] theorem outIO_v (d : D) (io : List D) (i : Nat) (f : Bool) (ρ : En) : outIO (.ret (.v d) io) i f ρ = .ok (.v d) (ρ.set i (.ow f (.l io))) := rfl
@[simp] theorem outIO_nw (c : C) (io : List D) (i : Nat) (f : Bool) (ρ : En) : outIO (.ret (.nw c) io) i f ρ = .ok (.nw c) (ρ.set i (.ow f (.l io))) := rfl
@[simp] theorem endR_v (ρ : En) (d : D) : endR ρ (.v d) = some (.v d) := rfl
@[simp] theorem endR_nw (ρ : En) (c : C) : endR ρ (.nw c) = some (.nw c) := rfl
def eS : Option Sl → Option R
  | some (.ow false c) => some (.nw c)
  | some (.v d) => some (.v d)
  | _ => none
@[simp] theorem endR_sl (ρ : En) (i : Nat) : endR ρ (.sl i) = eS ρ[i]? := by
  unfold endR eS; dsimp only <;> rcases ρ[i]? with _ | (_ | _ | ⟨(_ | _), (_ | _ | _)⟩ | _) <;> rfl
@[simp] theorem eS_v (d : D) : eS (some (.v d)) = some (.v d) := rfl
@[simp] theorem eS_ow (c : C) : eS (some (.ow false c)) = some (.nw c) := rfl
@[simp] theorem e_var (i : Nat) : evE Φ (.var i) ρ = gV ρ[i]? i ρ := by
  rw [evE]; unfold gV; rcases ρ[i]? with _ | (_ | _ | _ | _) <;> rfl
@[simp] theorem e_lit (d : D) : evE Φ (.lit d) ρ = .ok (.v d) ρ := by rw [evE]
@[simp] theorem e_bin (o : Bop) (a b : Ex) : evE Φ (.bin o a b) ρ = bnd (evE Φ a ρ) fun x ρ => bnd (opr x ρ) fun x ρ => bnd (evE Φ b ρ) fun y ρ => bnd (opr y ρ) fun y ρ =>
      bnd (opt (vw ρ x) ρ) fun x ρ => bnd (opt (vw ρ y) ρ) fun y ρ => opt (binD o x y) ρ := by rw [evE]
def ngR (x : R) (ρ : En) : Res R := match x with
    | .v (.int i) => .ok (.v (.int (-i))) ρ
    | _ => .no
@[simp] theorem ngR_i (i : Int) (ρ : En) : ngR (.v (.int i)) ρ = .ok (.v (.int (-i))) ρ := rfl
@[simp] theorem e_neg (a : Ex) : evE Φ (.neg a) ρ = bnd (evE Φ a ρ) ngR := by
  rw [evE]; congr 1
@[simp] theorem e_not (a : Ex) : evE Φ (.not a) ρ = bnd (evE Φ a ρ) fun x ρ => bnd (toB x ρ) fun b ρ => .ok (.v (.bool (!b))) ρ := by rw [evE]
@[simp] theorem e_cmp (a : Ex) (l : Lks) : evE Φ (.cmp a l) ρ = bnd (evE Φ a ρ) fun x ρ => bnd (opr x ρ) fun x ρ => bnd (evL Φ l x ρ) fun b ρ => .ok (.v (.bool b)) ρ := by rw [evE]
@[simp] theorem e_and (es : Exs) : evE Φ (.and es) ρ = bnd (evAnd Φ es ρ) fun b ρ => .ok (.v (.bool b)) ρ := by rw [evE]
@[simp] theorem e_or (es : Exs) : evE Φ (.or es) ρ = bnd (evOr Φ es ρ) fun b ρ => .ok (.v (.bool b)) ρ := by rw [evE]
@[simp] theorem e_ite (c a b : Ex) : evE Φ (.ite c a b) ρ = bnd (evE Φ c ρ) fun x ρ => bnd (toB x ρ) fun k ρ => if k = true then evE Φ a ρ else evE Φ b ρ := by rw [evE]
@[simp] theorem e_tup (es : Exs) : evE Φ (.tup es) ρ = bnd (evEs Φ es ρ) fun ds ρ => if ds.length ≤ sizeLine then .ok (.v (.tuple ds)) ρ else .no := by rw [evE]
@[simp] theorem e_lst (es : Exs) : evE Φ (.lst es) ρ = bnd (evEs Φ es ρ) fun ds ρ => if ds.length ≤ sizeLine then .ok (.nw (.l ds)) ρ else .no := by rw [evE]
@[simp] theorem e_dnew (t : Bool) : evE Φ (.dnew t) ρ = .ok (.nw (if t then .t [] else .k [])) ρ := by rw [evE]
@[simp] theorem e_ix (a b : Ex) : evE Φ (.ix a b) ρ = bnd (evE Φ a ρ) fun x ρ => bnd (opr x ρ) fun x ρ => bnd (evE Φ b ρ) fun y ρ => bnd (opr y ρ) fun y ρ => bnd (opt (ixR x y ρ) ρ) fun d ρ => .ok (.v d) ρ := by rw [evE]
@[simp] theorem e_slc (a lo hi : Ex) : evE Φ (.slc a lo hi) ρ = bnd (evE Φ a ρ) fun x ρ => bnd (opr x ρ) fun x ρ => bnd (partO (isNil lo) (evE Φ lo ρ) ρ) fun l ρ => bnd (partO (isNil hi) (evE Φ hi ρ) ρ) fun h ρ =>
      bnd (opt (vw ρ x) ρ) fun x ρ => opt (slcI x l h) ρ := by rw [evE]
@[simp] theorem isNil_none : isNil (.lit .none) = true := rfl
@[simp] theorem isNil_int (i : Int) : isNil (.lit (.int i)) = false := rfl
@[simp] theorem isNil_var (i : Nat) : isNil (.var i) = false := rfl
@[simp] theorem isNil_bin (o : Bop) (a b : Ex) : isNil (.bin o a b) = false := rfl
@[simp] theorem isNil_neg (a : Ex) : isNil (.neg a) = false := rfl
@[simp] theorem partO_t (v : Res R) (ρ : En) : partO true v ρ = .ok none ρ := rfl
@[simp] theorem partO_f (v : Res R) (ρ : En) : partO false v ρ = bnd v toI := rfl
@[simp] theorem e_call (f : Nat) (es : Exs) : evE Φ (.call f es) ρ = bnd (evEs Φ es ρ) fun ds ρ => outR (Φ f ds) ρ := by rw [evE]
def ioC (Φ : Nat → List D → Out) (f i : Nat) (ds : List D) (s : Option Sl) (ρ : En) : Res R := match s with
      | some (.ow g (.l xs)) => outIO (Φ f (.list xs :: ds)) i g ρ
      | _ => .no
@[simp] theorem ioC_ow (f i : Nat) (ds : List D) (g : Bool) (xs : List D) : ioC Φ f i ds (some (.ow g (.l xs))) ρ = outIO (Φ f (.list xs :: ds)) i g ρ := rfl
def isOw : Option Sl → Bool
  | some (.ow _ _) => true
  | _ => false
@[simp] theorem isOw_ow (f : Bool) (c : C) : isOw (some (.ow f c)) = true := rfl
@[simp] theorem e_callIO (f i : Nat) (es : Exs) : evE Φ (.callIO f i es) ρ = if isOw ρ[i]? = true then bnd (evEs Φ es ρ) fun ds ρ => ioC Φ f i ds ρ[i]? ρ else .no := by
  rw [evE]; rcases ρ[i]? with _ | (_ | _ | _ | _) <;> first | rfl | (simp [isOw]; congr 1)
def isDc : Option Sl → Bool
  | some (.ow _ (.t _)) => true
  | some (.ow _ (.k _)) => true
  | _ => false
@[simp] theorem isDc_t (f : Bool) (kvs : List (List Key × D)) : isDc (some (.ow f (.t kvs))) = true := rfl
@[simp] theorem isDc_k (f : Bool) (kvs : List (Key × D)) : isDc (some (.ow f (.k kvs))) = true := rfl
@[simp] theorem e_get2 (i : Nat) (k x : Ex) : evE Φ (.get2 (.var i) k x) ρ = if isDc ρ[i]? = true then bnd (evE Φ k ρ) fun k ρ => bnd (frz k ρ) fun k ρ => bnd (evE Φ x ρ) fun x ρ => bnd (frz x ρ) fun x ρ =>
        bnd (opt (vC ρ[i]?) ρ) fun c ρ => bnd (opt (getC c k) ρ) fun r ρ => .ok (.v (r.getD x)) ρ else .no := by
  rw [evE, e_var]
  cases h : ρ[i]? with
  | none => rfl
  | some s =>
    rcases s with _ | _ | ⟨f, (_ | _ | _)⟩ | _
    · rfl
    · rfl
    · simp only [gV_ow, bnd_ok, h]; rfl
    · simp only [gV_ow, bnd_ok, h, vwC_sl]; rfl
    · simp only [gV_ow, bnd_ok, h, vwC_sl]; rfl
    · rfl
def rgR (mk : List D → R) (x y : R) (ρ : En) : Res R := match x, y with
    | .v (.int i), .v (.int j) => if rngOk i j = true then .ok (mk (rngD i j)) ρ else .no
    | _, _ => .no
@[simp] theorem rgR_i (mk : List D → R) (i j : Int) : rgR mk (.v (.int i)) (.v (.int j)) ρ = if rngOk i j = true then .ok (mk (rngD i j)) ρ else .no := rfl
@[simp] theorem e_listRg (a b : Ex) : evE Φ (.listRg a b) ρ = bnd (evE Φ a ρ) fun x ρ => bnd (evE Φ b ρ) fun y ρ => rgR (fun l => .nw (.l l)) x y ρ := by
  rw [evE]; congr 1
@[simp] theorem e_tupRg (a b : Ex) : evE Φ (.tupRg a b) ρ = bnd (evE Φ a ρ) fun x ρ => bnd (evE Φ b ρ) fun y ρ => rgR (fun l => .v (.tuple l)) x y ρ := by
  rw [evE]; congr 1
def srtR (x : R) (ρ : En) : Res R := match vwC ρ x with
      | some (.t kvs) => opt (biD .sorted [.list (kvs.map fun p => .tuple (p.1.map dKey))]) ρ
      | some (.k _) => .no
      | _ => bnd (opt (vw ρ x) ρ) fun x ρ => opt (biD .sorted [x]) ρ
@[simp] theorem srtR_v (d : D) : srtR (.v d) ρ = opt (biD .sorted [d]) ρ := rfl
theorem srtR_t {i : Nat} {kvs : List (List Key × D)} {f : Bool} (h : ρ[i]? = some (.ow f (.t kvs))) : srtR (.sl i) ρ = opt (biD .sorted [.list (kvs.map fun p => .tuple (p.1.map dKey))]) ρ := by
  unfold srtR; rw [vwC_sl, h]; rfl
@[simp] theorem e_sorted (e : Ex) : evE Φ (.bi .sorted (.cons e .nil)) ρ = bnd (evE Φ e ρ) fun x ρ => bnd (opr x ρ) fun x ρ => srtR x ρ := by
  rw [evE]; congr 1
@[simp] theorem e_srtSet (e : Ex) : evE Φ (.bi .srtSet (.cons e .nil)) ρ = bnd (evE Φ e ρ) fun x ρ => bnd (opr x ρ) fun x ρ => bnd (opt (vw ρ x) ρ) fun x ρ => opt (setD x) ρ := by rw [evE]
@[simp] theorem e_len (e : Ex) : evE Φ (.bi .len (.cons e .nil)) ρ = bnd (evE Φ e ρ) fun x ρ => bnd (opr x ρ) fun x ρ => bnd (opt (vw ρ x) ρ) fun x ρ => opt (biD .len [x]) ρ := by rw [evE] <;> simp
@[simp] theorem e_sum (e : Ex) : evE Φ (.bi .sum (.cons e .nil)) ρ = bnd (evE Φ e ρ) fun x ρ => bnd (opr x ρ) fun x ρ => bnd (opt (vw ρ x) ρ) fun x ρ => opt (biD .sum [x]) ρ := by rw [evE] <;> simp
@[simp] theorem e_all (e : Ex) : evE Φ (.bi .all (.cons e .nil)) ρ = bnd (evE Φ e ρ) fun x ρ => bnd (opr x ρ) fun x ρ => bnd (opt (vw ρ x) ρ) fun x ρ => opt (biD .all [x]) ρ := by rw [evE] <;> simp
@[simp] theorem e_any (e : Ex) : evE Φ (.bi .any (.cons e .nil)) ρ = bnd (evE Φ e ρ) fun x ρ => bnd (opr x ρ) fun x ρ => bnd (opt (vw ρ x) ρ) fun x ρ => opt (biD .any [x]) ρ := by rw [evE] <;> simp
@[simp] theorem e_tuple (e : Ex) : evE Φ (.bi .tuple (.cons e .nil)) ρ = bnd (evE Φ e ρ) fun x ρ => bnd (opr x ρ) fun x ρ => bnd (opt (vw ρ x) ρ) fun x ρ => opt (biD .tuple [x]) ρ := by rw [evE] <;> simp
@[simp] theorem e_list (e : Ex) : evE Φ (.bi .list (.cons e .nil)) ρ = bnd (evE Φ e ρ) fun x ρ => bnd (opr x ρ) fun x ρ => bnd (opt (vw ρ x) ρ) fun x ρ => opt (biD .list [x]) ρ := by rw [evE] <;> simp
@[simp] theorem e_int (e : Ex) : evE Φ (.bi .int (.cons e .nil)) ρ = bnd (evE Φ e ρ) fun x ρ => bnd (opr x ρ) fun x ρ => bnd (opt (vw ρ x) ρ) fun x ρ => opt (biD .int [x]) ρ := by rw [evE] <;> simp
@[simp] theorem e_abs (e : Ex) : evE Φ (.bi .abs (.cons e .nil)) ρ = bnd (evE Φ e ρ) fun x ρ => bnd (opr x ρ) fun x ρ => bnd (opt (vw ρ x) ρ) fun x ρ => opt (biD .abs [x]) ρ := by rw [evE] <;> simp
@[simp] theorem e_min1 (e : Ex) : evE Φ (.bi .min1 (.cons e .nil)) ρ = bnd (evE Φ e ρ) fun x ρ => bnd (opr x ρ) fun x ρ => bnd (opt (vw ρ x) ρ) fun x ρ => opt (biD .min1 [x]) ρ := by rw [evE] <;> simp
@[simp] theorem e_minT (e : Ex) : evE Φ (.bi .minT (.cons e .nil)) ρ = bnd (evE Φ e ρ) fun x ρ => bnd (opr x ρ) fun x ρ => bnd (opt (vw ρ x) ρ) fun x ρ => opt (biD .minT [x]) ρ := by rw [evE] <;> simp
@[simp] theorem e_max1 (e : Ex) : evE Φ (.bi .max1 (.cons e .nil)) ρ = bnd (evE Φ e ρ) fun x ρ => bnd (opr x ρ) fun x ρ => bnd (opt (vw ρ x) ρ) fun x ρ => opt (biD .max1 [x]) ρ := by rw [evE] <;> simp
@[simp] theorem e_isInt (e : Ex) : evE Φ (.bi .isInt (.cons e .nil)) ρ = bnd (evE Φ e ρ) fun x ρ => bnd (opr x ρ) fun x ρ => bnd (opt (vw ρ x) ρ) fun x ρ => opt (biD .isInt [x]) ρ := by rw [evE] <;> simp
@[simp] theorem e_isBool (e : Ex) : evE Φ (.bi .isBool (.cons e .nil)) ρ = bnd (evE Φ e ρ) fun x ρ => bnd (opr x ρ) fun x ρ => bnd (opt (vw ρ x) ρ) fun x ρ => opt (biD .isBool [x]) ρ := by rw [evE] <;> simp
@[simp] theorem e_isTup (e : Ex) : evE Φ (.bi .isTup (.cons e .nil)) ρ = bnd (evE Φ e ρ) fun x ρ => bnd (opr x ρ) fun x ρ => bnd (opt (vw ρ x) ρ) fun x ρ => opt (biD .isTup [x]) ρ := by rw [evE] <;> simp
@[simp] theorem e_isStr (e : Ex) : evE Φ (.bi .isStr (.cons e .nil)) ρ = bnd (evE Φ e ρ) fun x ρ => bnd (opr x ρ) fun x ρ => bnd (opt (vw ρ x) ρ) fun x ρ => opt (biD .isStr [x]) ρ := by rw [evE] <;> simp
@[simp] theorem e_min2 (e g : Ex) : evE Φ (.bi .min2 (.cons e (.cons g .nil))) ρ = bnd (evE Φ e ρ) fun x ρ => bnd (opr x ρ) fun x ρ => bnd (evE Φ g ρ) fun y ρ => bnd (opr y ρ) fun y ρ => bnd (opt (vw ρ x) ρ) fun x ρ => bnd (opt (vw ρ y) ρ) fun y ρ => opt (biD .min2 [x, y]) ρ := by rw [evE] <;> simp
@[simp] theorem e_max2 (e g : Ex) : evE Φ (.bi .max2 (.cons e (.cons g .nil))) ρ = bnd (evE Φ e ρ) fun x ρ => bnd (opr x ρ) fun x ρ => bnd (evE Φ g ρ) fun y ρ => bnd (opr y ρ) fun y ρ => bnd (opt (vw ρ x) ρ) fun x ρ => bnd (opt (vw ρ y) ρ) fun y ρ => opt (biD .max2 [x, y]) ρ := by rw [evE] <;> simp
def apR (i : Nat) (d : D) (s : Option Sl) (ρ : En) : Res R := match s with
      | some (.ow f (.l xs)) => if xs.length < sizeLine then .ok (.v .none) (ρ.set i (.ow f (.l (xs ++ [d])))) else .no
      | _ => .no
@[simp] theorem apR_ow (i : Nat) (d : D) (f : Bool) (xs : List D) : apR i d (some (.ow f (.l xs))) ρ = if xs.length < sizeLine then .ok (.v .none) (ρ.set i (.ow f (.l (xs ++ [d])))) else .no := rfl
def isOl : Option Sl → Bool
  | some (.ow _ (.l _)) => true
  | _ => false
@[simp] theorem isOl_ow (f : Bool) (xs : List D) : isOl (some (.ow f (.l xs))) = true := rfl
@[simp] theorem e_app (i : Nat) (e : Ex) : evE Φ (.app i e) ρ = if isOl ρ[i]? = true then bnd (evE Φ e ρ) fun x ρ => bnd (frz x ρ) fun d ρ => apR i d ρ[i]? ρ else .no := by
  rw [evE]; rcases ρ[i]? with _ | (_ | _ | ⟨_, (_ | _ | _)⟩ | _) <;> first | rfl | (simp [isOl]; congr 1)
def poR (i : Nat) (x : R) (s : Option Sl) (ρ : En) : Res R := match x, s with
      | .v (.int j), some (.ow f (.l xs)) => (match ixN xs.length j with
        | some m => (match xs[m]? with
          | some d => .ok (.v d) (ρ.set i (.ow f (.l (xs.eraseIdx m))))
          | none => .no)
        | none => .no)
      | _, _ => .no
theorem poR_ow {i m : Nat} {j : Int} {f : Bool} {xs : List D} {d : D} (h : ixN xs.length j = some m) (hd : xs[m]? = some d) : poR i (.v (.int j)) (some (.ow f (.l xs))) ρ = .ok (.v d) (ρ.set i (.ow f (.l (xs.eraseIdx m)))) := by
  unfold poR; simp only [h, hd]
@[simp] theorem e_pop (i : Nat) (e : Ex) : evE Φ (.pop i e) ρ = if isOl ρ[i]? = true then bnd (evE Φ e ρ) fun x ρ => poR i x ρ[i]? ρ else .no := by
  rw [evE]; rcases ρ[i]? with _ | (_ | _ | ⟨_, (_ | _ | _)⟩ | _) <;> first | rfl | (simp [isOl]; congr 1)
@[simp] theorem e_index (a x : Ex) : evE Φ (.index a x) ρ = bnd (evE Φ a ρ) fun a ρ => if isLs (vw ρ a) = true then bnd (opr a ρ) fun a ρ => bnd (evE Φ x ρ) fun x ρ => bnd (opr x ρ) fun x ρ => bnd (opt (vw ρ a) ρ) fun a ρ => bnd (opt (vw ρ x) ρ) fun x ρ => opt ((idxD a x).map fun j => .v (.int (j : Nat))) ρ else .no := by rw [evE]
@[simp] theorem isLs_l (xs : List D) : isLs (some (.list xs)) = true := rfl
@[simp] theorem l_one (o : Cop) (e : Ex) (x : R) : evL Φ (.one o e) x ρ = bnd (evE Φ e ρ) fun y ρ => bnd (opr y ρ) fun y ρ => opt (cmpR o x y ρ) ρ := by rw [evL]
@[simp] theorem l_more (o : Cop) (e : Ex) (l : Lks) (x : R) : evL Φ (.more o e l) x ρ = bnd (evE Φ e ρ) fun y ρ => bnd (opr y ρ) fun y ρ => bnd (opt (cmpR o x y ρ) ρ) fun k ρ => if k = true then evL Φ l y ρ else .ok false ρ := by rw [evL]
@[simp] theorem a_nil : evAnd Φ .nil ρ = .ok true ρ := by rw [evAnd]
@[simp] theorem a_cons (e : Ex) (es : Exs) : evAnd Φ (.cons e es) ρ = bnd (evE Φ e ρ) fun x ρ => bnd (toB x ρ) fun k ρ => if k = true then evAnd Φ es ρ else .ok false ρ := by rw [evAnd]
@[simp] theorem o_nil : evOr Φ .nil ρ = .ok false ρ := by rw [evOr]
@[simp] theorem o_cons (e : Ex) (es : Exs) : evOr Φ (.cons e es) ρ = bnd (evE Φ e ρ) fun x ρ => bnd (toB x ρ) fun k ρ => if k = true then .ok true ρ else evOr Φ es ρ := by rw [evOr]
@[simp] theorem es_nil : evEs Φ .nil ρ = .ok [] ρ := by rw [evEs]
@[simp] theorem es_cons (e : Ex) (es : Exs) : evEs Φ (.cons e es) ρ = bnd (evE Φ e ρ) fun x ρ => bnd (frz x ρ) fun d ρ => bnd (evEs Φ es ρ) fun ds ρ => .ok (d :: ds) ρ := by rw [evEs]
@[simp] theorem i_seq (e : Ex) : evI Φ (.seq e) ρ = bnd (evE Φ e ρ) fun x ρ => bnd (frz x ρ) fun d ρ => opt (seqD d) ρ := by rw [evI]
def rgI (x y : R) (ρ : En) : Res (List D) := match x, y with
    | .v (.int i), .v (.int j) => if rngOk i j = true then .ok (rngD i j) ρ else .no
    | _, _ => .no
@[simp] theorem rgI_i (i j : Int) : rgI (.v (.int i)) (.v (.int j)) ρ = if rngOk i j = true then .ok (rngD i j) ρ else .no := rfl
@[simp] theorem i_rng (a b : Ex) : evI Φ (.rng a b) ρ = bnd (evE Φ a ρ) fun x ρ => bnd (evE Φ b ρ) fun y ρ => rgI x y ρ := by rw [evI]; congr 1
def enI (d : D) (ρ : En) : Res (List D) := match d with
    | .list l => .ok (enumD 0 l) ρ
    | _ => .no
@[simp] theorem enI_l (l : List D) : enI (.list l) ρ = .ok (enumD 0 l) ρ := rfl
@[simp] theorem i_enum (e : Ex) : evI Φ (.enum e) ρ = bnd (evE Φ e ρ) fun x ρ => bnd (frz x ρ) fun d ρ => enI d ρ := by rw [evI]; congr 1
def zpI (d e : D) (ρ : En) : Res (List D) := match d, e with
    | .list xs, .list ys => .ok (zipD xs ys) ρ
    | .tuple xs, .tuple ys => .ok (zipD xs ys) ρ
    | _, _ => .no
@[simp] theorem zpI_l (l m : List D) : zpI (.list l) (.list m) ρ = .ok (zipD l m) ρ := rfl
@[simp] theorem zpI_t (l m : List D) : zpI (.tuple l) (.tuple m) ρ = .ok (zipD l m) ρ := rfl
@[simp] theorem i_zip (a b : Ex) : evI Φ (.zip a b) ρ = bnd (evE Φ a ρ) fun x ρ => bnd (frz x ρ) fun d ρ => bnd (evE Φ b ρ) fun y ρ => bnd (frz y ρ) fun e ρ => zpI d e ρ := by rw [evI]; congr 1
def zpI3 (d e f : D) (ρ : En) : Res (List D) := match d, e, f with
    | .tuple xs, .tuple ys, .tuple zs => .ok (zipD3 xs ys zs) ρ
    | _, _, _ => .no
@[simp] theorem zpI3_t (l m k : List D) : zpI3 (.tuple l) (.tuple m) (.tuple k) ρ = .ok (zipD3 l m k) ρ := rfl
@[simp] theorem i_zip3 (a b c : Ex) : evI Φ (.zip3 a b c) ρ = bnd (evE Φ a ρ) fun x ρ => bnd (frz x ρ) fun d ρ => bnd (evE Φ b ρ) fun y ρ => bnd (frz y ρ) fun e ρ => bnd (evE Φ c ρ) fun u ρ => bnd (frz u ρ) fun f ρ => zpI3 d e f ρ := by rw [evI]; congr 1
@[simp] theorem cmpR_v (o : Cop) (x : R) (b : D) : cmpR o x (.v b) ρ = (vw ρ x).bind fun a => cmpD o a b := by
  unfold cmpR; rw [vwC_v]; cases o <;> simp
theorem cmpR_l (o : Cop) (x : R) {i : Nat} {f : Bool} {xs : List D} (h : ρ[i]? = some (.ow f (.l xs))) : cmpR o x (.sl i) ρ = (vw ρ x).bind fun a => cmpD o a (.list xs) := by
  unfold cmpR; rw [vwC_sl, vw_sl, h]; cases o <;> simp
@[simp] theorem ixR_v (a : D) (y : R) : ixR (.v a) y ρ = (vw ρ y).bind fun y => ixD a y := by unfold ixR; simp
def ixS (s : Option Sl) (y : R) (ρ : En) : Option D := match s with
  | some (.ow _ (.t kvs)) => (vw ρ y).bind fun y => (getC (.t kvs) y).bind id
  | some (.ow _ (.k kvs)) => (vw ρ y).bind fun y => (getC (.k kvs) y).bind id
  | some (.ow _ (.l xs)) => (vw ρ y).bind fun y => ixD (.list xs) y
  | some (.v a) => (vw ρ y).bind fun y => ixD a y
  | _ => none
@[simp] theorem ixR_sl (i : Nat) (y : R) : ixR (.sl i) y ρ = ixS ρ[i]? y ρ := by
  unfold ixR ixS; simp only [vwC_sl, vw_sl]; rcases ρ[i]? with _ | (_ | _ | ⟨_, (_ | _ | _)⟩ | _) <;> rfl
@[simp] theorem ixS_l (f : Bool) (xs : List D) (y : R) : ixS (some (.ow f (.l xs))) y ρ = (vw ρ y).bind fun y => ixD (.list xs) y := rfl
@[simp] theorem ixS_t (f : Bool) (kvs : List (List Key × D)) (y : R) : ixS (some (.ow f (.t kvs))) y ρ = (vw ρ y).bind fun y => (getC (.t kvs) y).bind id := rfl
@[simp] theorem ixS_k (f : Bool) (kvs : List (Key × D)) (y : R) : ixS (some (.ow f (.k kvs))) y ρ = (vw ρ y).bind fun y => (getC (.k kvs) y).bind id := rfl
@[simp] theorem add_ii (i j : Int) : binD .add (.int i) (.int j) = some (.v (.int (i + j))) := rfl
@[simp] theorem sub_ii (i j : Int) : binD .sub (.int i) (.int j) = some (.v (.int (i - j))) := rfl
@[simp] theorem lt_ii (i j : Int) : cmpD .lt (.int i) (.int j) = some (decide (i < j)) := rfl
@[simp] theorem le_ii (i j : Int) : cmpD .le (.int i) (.int j) = some (decide (i ≤ j)) := rfl
@[simp] theorem gt_ii (i j : Int) : cmpD .gt (.int i) (.int j) = some (decide (j < i)) := rfl
@[simp] theorem ge_ii (i j : Int) : cmpD .ge (.int i) (.int j) = some (decide (j ≤ i)) := rfl
@[simp] theorem s_skip : evS Φ .skip ρ = .ok .nx ρ := rfl
def sqF (Φ : Nat → List D → Out) (b : Sx) (f : Fl) (ρ : En) : Res Fl := match f with
    | .nx => evS Φ b ρ
    | f => .ok f ρ
@[simp] theorem sqF_nx (b : Sx) : sqF Φ b .nx ρ = evS Φ b ρ := rfl
@[simp] theorem sqF_bk (b : Sx) : sqF Φ b .bk ρ = .ok .bk ρ := rfl
@[simp] theorem sqF_ct (b : Sx) : sqF Φ b .ct ρ = .ok .ct ρ := rfl
@[simp] theorem sqF_rt (b : Sx) (r : R) : sqF Φ b (.rt r) ρ = .ok (.rt r) ρ := rfl
@[simp] theorem s_seq (a b : Sx) : evS Φ (.seq a b) ρ = bnd (evS Φ a ρ) (sqF Φ b) := by
  show bnd _ _ = _; congr 1
theorem seq_nx {a b : Sx} {ρ' : En} (h : evS Φ a ρ = .ok .nx ρ') : evS Φ (.seq a b) ρ = evS Φ b ρ' := by rw [s_seq, h]; rfl
@[simp] theorem s_set (i : Nat) (e : Ex) : evS Φ (.set i e) ρ = bnd (evE Φ e ρ) fun r ρ => bnd (setR i r ρ) fun _ ρ => .ok .nx ρ := rfl
@[simp] theorem s_setT (t : Tg) (e : Ex) : evS Φ (.setT t e) ρ = bnd (evE Φ e ρ) fun r ρ => bnd (frz r ρ) fun d ρ => bnd (asg t d ρ) fun _ ρ => .ok .nx ρ := rfl
@[simp] theorem s_par (is : List Nat) (es : Exs) : evS Φ (.par is es) ρ = bnd (evRs Φ es ρ) fun rs ρ => bnd (setRs is rs ρ) fun _ ρ => .ok .nx ρ := rfl
@[simp] theorem rs_nil : evRs Φ .nil ρ = .ok [] ρ := rfl
def rsF (Φ : Nat → List D → Out) (es : Exs) (x : R) (ρ : En) : Res (List R) := match x with
    | .sl _ => .no
    | x => bnd (evRs Φ es ρ) fun xs ρ => .ok (x :: xs) ρ
@[simp] theorem rsF_v (es : Exs) (d : D) : rsF Φ es (.v d) ρ = bnd (evRs Φ es ρ) fun xs ρ => .ok (.v d :: xs) ρ := rfl
@[simp] theorem rsF_nw (es : Exs) (c : C) : rsF Φ es (.nw c) ρ = bnd (evRs Φ es ρ) fun xs ρ => .ok (.nw c :: xs) ρ := rfl
@[simp] theorem rs_cons (e : Ex) (es : Exs) : evRs Φ (.cons e es) ρ = bnd (evE Φ e ρ) (rsF Φ es) := by
  show bnd _ _ = _; congr 1
@[simp] theorem srs_nil : setRs [] [] ρ = .ok () ρ := rfl
@[simp] theorem srs_cons (i : Nat) (is : List Nat) (r : R) (rs : List R) : setRs (i :: is) (r :: rs) ρ = bnd (setR i r ρ) fun _ ρ => setRs is rs ρ := rfl
def puS (i : Nat) (k d : D) (s : Option Sl) (ρ : En) : Res Fl := match s with
      | some (.ow f c) => bnd (opt (putC c k d) ρ) fun c ρ => .ok .nx (ρ.set i (.ow f c))
      | _ => .no
@[simp] theorem puS_ow (i : Nat) (k d : D) (f : Bool) (c : C) : puS i k d (some (.ow f c)) ρ = bnd (opt (putC c k d) ρ) fun c ρ => .ok .nx (ρ.set i (.ow f c)) := rfl
@[simp] theorem s_put (i : Nat) (k e : Ex) : evS Φ (.put i k e) ρ = bnd (evE Φ e ρ) fun r ρ => bnd (frz r ρ) fun d ρ => if isOw ρ[i]? = true then bnd (evE Φ k ρ) fun k ρ => bnd (frz k ρ) fun k ρ => puS i k d ρ[i]? ρ else .no := by
  rw [evS]; congr 1; funext r ρ; congr 1; funext d ρ; rcases ρ[i]? with _ | (_ | _ | _ | _) <;> first | rfl | (simp [isOw]; congr 1)
@[simp] theorem s_ex (e : Ex) : evS Φ (.ex e) ρ = bnd (evE Φ e ρ) fun _ ρ => .ok .nx ρ := rfl
@[simp] theorem s_ret (e : Ex) : evS Φ (.ret e) ρ = bnd (evE Φ e ρ) fun r ρ => .ok (.rt r) ρ := rfl
@[simp] theorem s_raise (c : Str) : evS Φ (.raise c) ρ = .ex c ρ := rfl
@[simp] theorem s_ite (c : Ex) (a b : Sx) : evS Φ (.ite c a b) ρ = bnd (evE Φ c ρ) fun x ρ => bnd (toB x ρ) fun k ρ => if k = true then evS Φ a ρ else evS Φ b ρ := rfl
theorem s_whl (c : Ex) (b : Sx) : evS Φ (.whl c b) ρ = whlL (fun ρ => bnd (evE Φ c ρ) toB) (evS Φ b) fuelN ρ := rfl
theorem s_for (t : Tg) (it : It) (b : Sx) : evS Φ (.for_ t it b) ρ = bnd (evI Φ it ρ) fun l ρ => forL t (evS Φ b) l ρ := rfl
def tryF (i : Nat) (x : Res Fl) : Res Fl := match x with
    | .ok f ρ => .ok f ρ
    | .ex c ρ => if i < ρ.length then (match enm c with
      | some w => .ok (.rt (.v (.str w))) (ρ.set i .un)
      | none => .no) else .no
    | .no => .no
@[simp] theorem tryF_ok (i : Nat) (f : Fl) : tryF i (.ok f ρ) = .ok f ρ := rfl
theorem tryF_ex {i : Nat} {c w : Str} (h : enm c = some w) (hl : i < ρ.length) : tryF i (.ex c ρ) = .ok (.rt (.v (.str w))) (ρ.set i .un) := by
  show (if i < ρ.length then (match enm c with
      | some w => Res.ok (Fl.rt (.v (.str w))) (ρ.set i .un)
      | none => .no) else .no) = _
  rw [if_pos hl, h]
@[simp] theorem s_try (b : Sx) (x : Str) (i : Nat) : evS Φ (.try_ b x i) ρ = tryF i (evS Φ b ρ) := by
  rw [evS]; cases evS Φ b ρ <;> rfl
@[simp] theorem s_brk : evS Φ .brk ρ = .ok .bk ρ := rfl
@[simp] theorem s_cont : evS Φ .cont ρ = .ok .ct ρ := rfl
def endO (fd : Fd) (io : List D) (r : Option R) : Out := match r with
  | some r => .ret r io
  | none => .no
theorem outF_rt {np ns : Nat} {b : Sx} (r : R) (ρ : En) : outF ⟨np, ns, false, b⟩ (.ok (.rt r) ρ) = match endR ρ r with
  | some r => .ret r []
  | none => .no := by
  show (match some ([] : List D), endR ρ r with
    | some xs, some r => Out.ret r xs
    | _, _ => .no) = _
  cases endR ρ r <;> rfl
@[simp] theorem outF_v {np ns : Nat} {b : Sx} (d : D) (ρ : En) : outF ⟨np, ns, false, b⟩ (.ok (.rt (.v d)) ρ) = .ret (.v d) [] := rfl
@[simp] theorem outF_nw {np ns : Nat} {b : Sx} (c : C) (ρ : En) : outF ⟨np, ns, false, b⟩ (.ok (.rt (.nw c)) ρ) = .ret (.nw c) [] := rfl
@[simp] theorem outF_nx {np ns : Nat} {b : Sx} (ρ : En) : outF ⟨np, ns, false, b⟩ (.ok .nx ρ) = .ret (.v .none) [] := rfl
@[simp] theorem outF_ex {np ns : Nat} {b : Sx} (c : Str) (ρ : En) : outF ⟨np, ns, false, b⟩ (.ex c ρ) = .ex c := rfl
@[simp] theorem outF_iov {np ns : Nat} {b : Sx} (d : D) (xs : List D) (ρ : En) : outF ⟨np, ns, true, b⟩ (.ok (.rt (.v d)) (.ow true (.l xs) :: ρ)) = .ret (.v d) xs := rfl
@[simp] theorem outF_ionw {np ns : Nat} {b : Sx} (c : C) (xs : List D) (ρ : En) : outF ⟨np, ns, true, b⟩ (.ok (.rt (.nw c)) (.ow true (.l xs) :: ρ)) = .ret (.nw c) xs := rfl
@[simp] theorem ok_ite {p : Prop} [Decidable p] (c : Bool) : (if p then (.ok c ρ : Res Bool) else .ok false ρ) = .ok (decide p && c) ρ := by
  by_cases h : p <;> simp [h]
@[simp] theorem ok_ite_or {p : Prop} [Decidable p] (c : Bool) : (if p then (.ok true ρ : Res Bool) else .ok c ρ) = .ok (decide p || c) ρ := by
  by_cases h : p <;> simp [h]
theorem wipe_len (ρ : En) : ∀ own : List Nat, (wipeE ρ own).length = ρ.length
  | [] => rfl
  | i :: r => by show ((wipeE ρ r).set i .un).length = _; rw [List.length_set, wipe_len ρ r]
theorem wipe_get (ρ : En) (j : Nat) : ∀ own : List Nat, (wipeE ρ own)[j]? = if j ∈ own ∧ j < ρ.length then some .un else ρ[j]?
  | [] => by simp [wipeE]
  | i :: r => by
    show ((wipeE ρ r).set i .un)[j]? = _
    rw [List.getElem?_set, wipe_get ρ j r, wipe_len]
    by_cases e : i = j
    · subst e
      by_cases l : i < ρ.length
      · simp [l]
      · simp [l]
    · have : j ≠ i := fun z => e z.symm
      simp [e, this]
theorem back_len (ρ0 ρ : En) : ∀ own : List Nat, (backE ρ0 own ρ).length = ρ.length
  | [] => rfl
  | i :: r => by show ((backE ρ0 r ρ).set i _).length = _; rw [List.length_set, back_len ρ0 ρ r]
theorem back_get (ρ0 ρ : En) (j : Nat) : ∀ own : List Nat, (backE ρ0 own ρ)[j]? = if j ∈ own ∧ j < ρ.length then some (ρ0.getD j .un) else ρ[j]?
  | [] => by simp [backE]
  | i :: r => by
    show ((backE ρ0 r ρ).set i _)[j]? = _
    rw [List.getElem?_set, back_get ρ0 ρ j r, back_len]
    by_cases e : i = j
    · subst e
      by_cases l : i < ρ.length
      · simp [l]
      · simp [l]
    · have : j ≠ i := fun z => e z.symm
      simp [e, this]
theorem back_wipe {ρ0 ρ : En} {own : List Nat} (h : wipeE ρ own = wipeE ρ0 own) : backE ρ0 own ρ = ρ0 := by
  have hl : ρ.length = ρ0.length := by rw [← wipe_len ρ own, h, wipe_len]
  refine List.ext_getElem? fun j => ?_
  rw [back_get]
  split
  · rename_i c
    rw [hl] at c
    rw [List.getD_eq_getElem?_getD, List.getElem?_eq_getElem c.2]; rfl
  · rename_i c
    have := congrArg (fun l => l[j]?) h
    simp only [wipe_get] at this
    rw [if_neg c, if_neg (by rw [← hl]; exact c)] at this
    exact this
theorem lcL_pure {own : List Nat} {tg : Tg} {cd : En → Res Bool} {elt : En → Res D} {ρ0 : En} (p : D → Bool) (g : D → D) : ∀ (ds acc : List D) (ρ : En), wipeE ρ own = wipeE ρ0 own →
    (∀ d ∈ ds, ∃ ρ1, asg tg d (wipeE ρ0 own) = .ok () ρ1 ∧ wipeE ρ1 own = wipeE ρ0 own ∧ cd ρ1 = .ok (p d) ρ1 ∧ (p d = true → elt ρ1 = .ok (g d) ρ1)) →
    ∃ ρ', lcL own tg cd elt ds acc ρ = .ok (acc ++ (ds.filter p).map g) ρ' ∧ wipeE ρ' own = wipeE ρ0 own
  | [], acc, ρ, w, _ => ⟨ρ, by simp [lcL], w⟩
  | d :: ds, acc, ρ, w, h => by
    obtain ⟨ρ1, h1, h2, h3, h4⟩ := h d (List.mem_cons_self ..)
    rw [lcL, w, h1]
    simp only [bnd_ok, h3, noX_k]
    by_cases c : p d = true
    · rw [if_pos c, h4 c]
      simp only [bnd_ok, noX_k]
      obtain ⟨ρ', e, q⟩ := lcL_pure p g ds (acc ++ [g d]) ρ1 h2 fun d hd => h d (List.mem_cons_of_mem _ hd)
      exact ⟨ρ', by rw [e, List.filter_cons_of_pos c]; simp, q⟩
    · rw [if_neg c]
      obtain ⟨ρ', e, q⟩ := lcL_pure p g ds acc ρ1 h2 fun d hd => h d (List.mem_cons_of_mem _ hd)
      exact ⟨ρ', by rw [e, List.filter_cons_of_neg c], q⟩
theorem lc_pure {elt cd : Ex} {tg : Tg} {it : It} {own : List Nat} (ds : List D) (p : D → Bool) (g : D → D) (h1 : evI Φ it ρ = .ok ds ρ) (h2 : freeE ρ own = true)
    (h3 : ∀ d ∈ ds, ∃ ρ1, asg tg d (wipeE ρ own) = .ok () ρ1 ∧ wipeE ρ1 own = wipeE ρ own ∧ bnd (evE Φ cd ρ1) toB = .ok (p d) ρ1 ∧ (p d = true → bnd (evE Φ elt ρ1) frz = .ok (g d) ρ1)) :
    evE Φ (.lc elt tg it cd own) ρ = .ok (.nw (.l ((ds.filter p).map g))) ρ := by
  rw [evE, h1]
  simp only [bnd_ok, h2]
  obtain ⟨ρ', e, q⟩ := lcL_pure (cd := fun ρ => bnd (evE Φ cd ρ) toB) (elt := fun ρ => bnd (evE Φ elt ρ) frz) p g ds [] ρ rfl h3
  rw [if_pos trivial, e]
  simp only [bnd_ok, List.nil_append, back_wipe q]
end Sn

namespace Mx
open PySem L2 Sn
variable {Φ : Nat → List D → Out} {ρ : En} {α β : Type}
theorem lcL_map {own : List Nat} {tg : Tg} {cd : En → Res Bool} {elt : En → Res D} {ρ0 : En} (enc : α → D) (p : α → Bool) (g : α → D) : ∀ (l : List α) (acc : List D) (ρ : En), wipeE ρ own = wipeE ρ0 own →
    (∀ a ∈ l, ∃ ρ1, asg tg (enc a) (wipeE ρ0 own) = .ok () ρ1 ∧ wipeE ρ1 own = wipeE ρ0 own ∧ cd ρ1 = .ok (p a) ρ1 ∧ (p a = true → elt ρ1 = .ok (g a) ρ1)) →
    ∃ ρ', lcL own tg cd elt (l.map enc) acc ρ = .ok (acc ++ (l.filter p).map g) ρ' ∧ wipeE ρ' own = wipeE ρ0 own
  | [], acc, ρ, w, _ => ⟨ρ, by simp [lcL], w⟩
  | d :: ds, acc, ρ, w, h => by
    obtain ⟨ρ1, h1, h2, h3, h4⟩ := h d (List.mem_cons_self ..)
    rw [List.map_cons, lcL, w, h1]
    simp only [bnd_ok, h3, noX_k]
    by_cases c : p d = true
    · rw [if_pos c, h4 c]
      simp only [bnd_ok, noX_k]
      obtain ⟨ρ', e, q⟩ := lcL_map enc p g ds (acc ++ [g d]) ρ1 h2 fun d hd => h d (List.mem_cons_of_mem _ hd)
      exact ⟨ρ', by rw [e, List.filter_cons_of_pos c]; simp, q⟩
    · rw [if_neg c]
      obtain ⟨ρ', e, q⟩ := lcL_map enc p g ds acc ρ1 h2 fun d hd => h d (List.mem_cons_of_mem _ hd)
      exact ⟨ρ', by rw [e, List.filter_cons_of_neg c], q⟩
/-- a comprehension that changes nothing -/
theorem lc_map {elt cd : Ex} {tg : Tg} {it : Sn.It} {own : List Nat} (l : List α) (enc : α → D) (p : α → Bool) (g : α → D) (h1 : evI Φ it ρ = .ok (l.map enc) ρ) (h2 : freeE ρ own = true)
    (h3 : ∀ a ∈ l, ∃ ρ1, asg tg (enc a) (wipeE ρ own) = .ok () ρ1 ∧ wipeE ρ1 own = wipeE ρ own ∧ bnd (evE Φ cd ρ1) toB = .ok (p a) ρ1 ∧ (p a = true → bnd (evE Φ elt ρ1) frz = .ok (g a) ρ1)) :
    evE Φ (.lc elt tg it cd own) ρ = .ok (.nw (.l ((l.filter p).map g))) ρ := by
  rw [evE, h1]
  simp only [bnd_ok, h2]
  obtain ⟨ρ', e, q⟩ := lcL_map (cd := fun ρ => bnd (evE Φ cd ρ) toB) (elt := fun ρ => bnd (evE Φ elt ρ) frz) enc p g l [] ρ rfl h3
  rw [if_pos trivial, e]
  simp only [bnd_ok, List.nil_append, back_wipe q]
theorem lc_mapE {elt cd : Ex} {tg : Tg} {it : Sn.It} {own : List Nat} (ρ' : En) (l : List α) (enc : α → D) (p : α → Bool) (g : α → D) (h1 : evI Φ it ρ = .ok (l.map enc) ρ') (h2 : freeE ρ' own = true)
    (h3 : ∀ a ∈ l, ∃ ρ1, asg tg (enc a) (wipeE ρ' own) = .ok () ρ1 ∧ wipeE ρ1 own = wipeE ρ' own ∧ bnd (evE Φ cd ρ1) toB = .ok (p a) ρ1 ∧ (p a = true → bnd (evE Φ elt ρ1) frz = .ok (g a) ρ1)) :
    evE Φ (.lc elt tg it cd own) ρ = .ok (.nw (.l ((l.filter p).map g))) ρ' := by
  rw [evE, h1]
  simp only [bnd_ok, h2]
  obtain ⟨ρ2, e, q⟩ := lcL_map (cd := fun ρ => bnd (evE Φ cd ρ) toB) (elt := fun ρ => bnd (evE Φ elt ρ) frz) enc p g l [] ρ' rfl h3
  rw [if_pos trivial, e]
  simp only [bnd_ok, List.nil_append, back_wipe q]
theorem lc_all {elt : Ex} {tg : Tg} {it : Sn.It} {own : List Nat} (l : List α) (enc : α → D) (g : α → D) (h1 : evI Φ it ρ = .ok (l.map enc) ρ) (h2 : freeE ρ own = true)
    (h3 : ∀ a ∈ l, ∃ ρ1, asg tg (enc a) (wipeE ρ own) = .ok () ρ1 ∧ wipeE ρ1 own = wipeE ρ own ∧ bnd (evE Φ elt ρ1) frz = .ok (g a) ρ1) :
    evE Φ (.lc elt tg it (.lit (.bool true)) own) ρ = .ok (.nw (.l (l.map g))) ρ := by
  have := lc_map (Φ := Φ) (ρ := ρ) (elt := elt) (cd := .lit (.bool true)) (tg := tg) (it := it) (own := own) l enc (fun _ => true) g h1 h2 fun a ha => by
    obtain ⟨ρ1, q1, q2, q3⟩ := h3 a ha
    exact ⟨ρ1, q1, q2, by simp, fun _ => q3⟩
  rw [this, List.filter_eq_self.mpr (fun _ _ => rfl)]
theorem m_bools (b : α → Bool) : ∀ l : List α, boolsD (l.map fun a => .bool (b a)) = some (l.map b)
  | [] => rfl
  | a :: l => by rw [List.map_cons, boolsD, m_bools b l]; rfl
theorem m_ints (b : α → Int) : ∀ l : List α, intsD (l.map fun a => .int (b a)) = some (l.map b)
  | [] => rfl
  | a :: l => by rw [List.map_cons, intsD, m_ints b l]; rfl
theorem m_all (b : α → Bool) (l : List α) : biD .all [.list (l.map fun a => .bool (b a))] = some (.v (.bool (l.all b))) := by
  show (boolsD _).map _ = _
  rw [m_bools]; simp [List.all_map]
theorem m_sum (b : α → Int) (l : List α) : biD .sum [.list (l.map fun a => .int (b a))] = some (.v (.int (l.map b).sum)) := by
  show (intsD _).map _ = _
  rw [m_ints]; rfl
/-- neighbours in order -/
def adj (lt : α → α → Bool) : List α → Bool
  | a :: b :: r => lt a b && adj lt (b :: r)
  | _ => true
def prs : List α → List (α × α)
  | a :: b :: r => (a, b) :: prs (b :: r)
  | _ => []
theorem adj_prs (lt : α → α → Bool) : ∀ l : List α, (prs l).all (fun q => lt q.1 q.2) = adj lt l
  | [] => rfl
  | [_] => rfl
  | a :: b :: r => by rw [prs, List.all_cons, adj_prs lt (b :: r)]; rfl
theorem zip_prs (enc : α → D) : ∀ l : List α, zipD (l.map enc) (l.map enc).tail = (prs l).map fun q => .tuple [enc q.1, enc q.2]
  | [] => rfl
  | [_] => rfl
  | a :: b :: r => by
    have := zip_prs enc (b :: r)
    simp only [List.map_cons, List.tail_cons, zipD, prs] at this ⊢
    rw [this]
theorem cut_1 (xs : List D) : cutD xs (some 1) none = xs.drop 1 := by
  unfold cutD HT.sIx
  simp only []
  rw [if_neg (by omega)]
  rcases xs with _ | ⟨a, r⟩
  · rfl
  · rw [List.take_of_length_le]
    · simp
    · simp
theorem adj_pw {lt : α → α → Bool} (tr : ∀ a b c, lt a b = true → lt b c = true → lt a c = true) : ∀ l : List α, adj lt l = true ↔ l.Pairwise fun a b => lt a b = true
  | [] => by simp [adj]
  | [a] => by simp [adj]
  | a :: b :: r => by
    rw [adj, Bool.and_eq_true, adj_pw tr (b :: r), List.pairwise_cons (a := a)]
    constructor
    · intro ⟨h1, h2⟩
      refine ⟨fun c hc => ?_, h2⟩
      rcases List.mem_cons.mp hc with e | hc
      · rw [e]; exact h1
      · exact tr _ _ _ h1 ((List.pairwise_cons.mp h2).1 c hc)
    · intro ⟨h1, h2⟩
      exact ⟨h1 b (List.mem_cons_self ..), h2⟩
theorem atI_nat (xs : List α) (i : Nat) (h : i < xs.length) : atI xs (i : Int) = some xs[i] := by
  unfold atI ixN
  rw [if_pos (by omega), if_pos (by omega)]
  simp [h]
@[simp] theorem ix_t0 (a : D) (l : List D) : ixD (.tuple (a :: l)) (.int 0) = some a := by
  show atI _ ((0 : Nat) : Int) = _; rw [atI_nat _ _ (by simp)]; rfl
@[simp] theorem ix_t1 (a b : D) (l : List D) : ixD (.tuple (a :: b :: l)) (.int 1) = some b := by
  show atI _ ((1 : Nat) : Int) = _; rw [atI_nat _ _ (by simp)]; rfl
@[simp] theorem ix_t2 (a b c : D) (l : List D) : ixD (.tuple (a :: b :: c :: l)) (.int 2) = some c := by
  show atI _ ((2 : Nat) : Int) = _; rw [atI_nat _ _ (by simp)]; rfl
@[simp] theorem ix_l0 (a : D) (l : List D) : ixD (.list (a :: l)) (.int 0) = some a := by
  show atI _ ((0 : Nat) : Int) = _; rw [atI_nat _ _ (by simp)]; rfl
@[simp] theorem ix_l1 (a b : D) (l : List D) : ixD (.list (a :: b :: l)) (.int 1) = some b := by
  show atI _ ((1 : Nat) : Int) = _; rw [atI_nat _ _ (by simp)]; rfl
@[simp] theorem ix_l2 (a b c : D) (l : List D) : ixD (.list (a :: b :: c :: l)) (.int 2) = some c := by
  show atI _ ((2 : Nat) : Int) = _; rw [atI_nat _ _ (by simp)]; rfl
theorem shp_i (i : Int) : SeqAt.shaped (.int i) = true := rfl
@[simp] theorem eq_ii (i j : Int) : cmpD .eq (.int i) (.int j) = some (decide (i = j)) := by
  show (if (SeqAt.shaped (.int i) && SeqAt.shaped (.int j)) = true then some (PyData.eqv (.int i) (.int j)) else none) = _
  rw [shp_i, shp_i, PyData.eqv]; rfl
@[simp] theorem ne_ii (i j : Int) : cmpD .ne (.int i) (.int j) = some (!decide (i = j)) := by
  show (if (SeqAt.shaped (.int i) && SeqAt.shaped (.int j)) = true then some (!PyData.eqv (.int i) (.int j)) else none) = _
  rw [shp_i, shp_i, PyData.eqv]; rfl
@[simp] theorem isTup_t (l : List D) : biD .isTup [.tuple l] = some (.v (.bool true)) := rfl
@[simp] theorem len_t (l : List D) : biD .len [.tuple l] = some (.v (.int l.length)) := rfl
@[simp] theorem len_l (l : List D) : biD .len [.list l] = some (.v (.int l.length)) := rfl
@[simp] theorem tup_l (l : List D) : biD .tuple [.list l] = some (.v (.tuple l)) := rfl
@[simp] theorem tup_t (l : List D) : biD .tuple [.tuple l] = some (.v (.tuple l)) := rfl
@[simp] theorem list_t (l : List D) : biD .list [.tuple l] = some (.nw (.l l)) := rfl
@[simp] theorem list_l (l : List D) : biD .list [.list l] = some (.nw (.l l)) := rfl
@[simp] theorem seq_t (l : List D) : seqD (.tuple l) = some l := rfl
@[simp] theorem seq_l (l : List D) : seqD (.list l) = some l := rfl
theorem forL_go {tg : Tg} {b : En → Res Fl} (enc : α → D) (I : List α → En → Prop)
    (h : ∀ a r ρ, I (a :: r) ρ → ∃ ρ1, asg tg (enc a) ρ = .ok () ρ1 ∧ ∃ ρ2, b ρ1 = .ok .nx ρ2 ∧ I r ρ2) : ∀ (l : List α) (ρ : En), I l ρ → ∃ ρ', forL tg b (l.map enc) ρ = .ok .nx ρ' ∧ I [] ρ'
  | [], ρ, i => ⟨ρ, rfl, i⟩
  | a :: r, ρ, i => by
    obtain ⟨ρ1, h1, ρ2, h2, h3⟩ := h a r ρ i
    obtain ⟨ρ', e, q⟩ := forL_go enc I h r ρ2 h3
    refine ⟨ρ', ?_, q⟩
    rw [List.map_cons, forL, h1]
    simp only [bnd_ok, h2]
    exact e
theorem for_k {tg : Tg} {it : Sn.It} {b : Sx} {f : Fl → En → Res β} (P : Res β → Prop) (l : List α) (enc : α → D) (I : List α → En → Prop) (h1 : evI Φ it ρ = .ok (l.map enc) ρ) (h0 : I l ρ)
    (h : ∀ a r ρ, I (a :: r) ρ → ∃ ρ1, asg tg (enc a) ρ = .ok () ρ1 ∧ ∃ ρ2, evS Φ b ρ1 = .ok .nx ρ2 ∧ I r ρ2) (hk : ∀ ρ', I [] ρ' → P (f .nx ρ')) : P (bnd (evS Φ (.for_ tg it b) ρ) f) := by
  obtain ⟨ρ', e, q⟩ := forL_go (tg := tg) (b := evS Φ b) enc I h l ρ h0
  rw [s_for, h1]
  simp only [bnd_ok, e]
  exact hk ρ' q
def rngI (a b : Int) : List Int := (List.range (b - a).toNat).map fun i => a + (i : Nat)
theorem rngD_eq (a b : Int) : rngD a b = (rngI a b).map .int := by unfold rngD rngI; rw [List.map_map]; rfl
theorem mem_rngI {a b i : Int} : i ∈ rngI a b ↔ a ≤ i ∧ i < b := by
  unfold rngI
  simp only [List.mem_map, List.mem_range]
  constructor
  · rintro ⟨k, h, rfl⟩; omega
  · intro ⟨h1, h2⟩; exact ⟨(i - a).toNat, by omega, by omega⟩
theorem rngOk_k {a b : Int} (h1 : -4000000 ≤ a) (h2 : a ≤ 4000000) (h3 : -4000000 ≤ b) (h4 : b ≤ 4000000) : rngOk a b = true := by
  unfold rngOk
  simp only [Bool.and_eq_true, decide_eq_true_eq]
  refine ⟨by omega, by omega, by omega, by omega, by omega⟩
theorem any_ints (p : Int) : ∀ S : List Int, ((S.map .int).any fun z => PyData.eqv z (.int p)) = decide (p ∈ S)
  | [] => rfl
  | a :: S => by
    rw [List.map_cons, List.any_cons, any_ints p S, PyData.eqv]
    by_cases e : a = p
    · subst e; simp
    · have e' : ¬ p = a := fun z => e z.symm
      simp [e, e']
theorem flat_ints (S : List Int) : (S.map PyData.int).all isFlat = true := by
  simp [isFlat]
@[simp] theorem in_t (p : Int) (S : List Int) : cmpD .inn (.int p) (.tuple (S.map .int)) = some (decide (p ∈ S)) := by
  show (if (isFlat (.int p) && (S.map PyData.int).all isFlat) = true then some _ else none) = _
  rw [flat_ints, any_ints]; rfl
@[simp] theorem notIn_t (p : Int) (S : List Int) : cmpD .notIn (.int p) (.tuple (S.map .int)) = some (!decide (p ∈ S)) := by
  show (if (isFlat (.int p) && (S.map PyData.int).all isFlat) = true then some _ else none) = _
  rw [flat_ints, any_ints]; rfl
theorem ix_last (l : List D) (h : l ≠ []) : ixD (.list l) (.int (-1)) = some (l.getLast h) := by
  have hl : 0 < l.length := List.length_pos_iff.mpr h
  show atI l (-1) = _
  unfold atI ixN
  rw [if_neg (by omega), if_pos (by omega)]
  have : ((-1 : Int) + (l.length : Int)).toNat = l.length - 1 := by omega
  rw [this, Option.bind_some, List.getElem?_eq_getElem (by omega), List.getLast_eq_getElem]
theorem canLay_ints : ∀ l : List Int, PyData.canLayAll0 (l.map .int) = true
  | [] => rfl
  | a :: l => by rw [List.map_cons, PyData.canLayAll0, canLay_ints l]; rfl
theorem depth_ints : ∀ l : List Int, PyData.depthAll (l.map .int) = 0
  | [] => rfl
  | a :: l => by rw [List.map_cons, PyData.depthAll, depth_ints l]; rfl
theorem shp_ints (l : List Int) : SeqAt.shaped (.list (l.map .int)) = true := by
  unfold SeqAt.shaped
  rw [PyData.canLay0, canLay_ints, PyData.depth, depth_ints]; rfl
@[simp] theorem ne_nil (l : List Int) : cmpD .ne (.list (l.map .int)) (.list []) = some (!decide (l = [])) := by
  show (if (SeqAt.shaped (.list (l.map .int)) && SeqAt.shaped (.list [])) = true then some (!PyData.eqv (.list (l.map .int)) (.list [])) else none) = _
  rw [shp_ints, show SeqAt.shaped (.list []) = true from rfl, show (true && true) = true from rfl, if_pos rfl, PyData.eqv]
  cases l <;> rfl
theorem whlL_go {c : En → Res Bool} {b : En → Res Fl} (I : Nat → En → Prop) (J : En → Prop)
    (h : ∀ m ρ, I m ρ → (∃ ρ1, c ρ = .ok false ρ1 ∧ J ρ1) ∨ ∃ ρ1, c ρ = .ok true ρ1 ∧ ∃ ρ2, b ρ1 = .ok .nx ρ2 ∧ ∃ m', m' < m ∧ I m' ρ2) : ∀ (n m : Nat) (ρ : En), m < n → I m ρ → ∃ ρ', whlL c b n ρ = .ok .nx ρ' ∧ J ρ'
  | 0, _, _, q, _ => absurd q (Nat.not_lt_zero _)
  | n + 1, m, ρ, q, i => by
    rw [whlL]
    rcases h m ρ i with ⟨ρ1, e, j⟩ | ⟨ρ1, e, ρ2, e2, m', hm, i2⟩
    · exact ⟨ρ1, by rw [e]; rfl, j⟩
    · obtain ⟨ρ', e3, j⟩ := whlL_go I J h n m' ρ2 (by omega) i2
      refine ⟨ρ', ?_, j⟩
      rw [e]
      simp only [bnd_ok, if_true, e2]
      exact e3
theorem whl_k {c : Ex} {b : Sx} {f : Fl → En → Res β} (P : Res β → Prop) (I : Nat → En → Prop) (J : En → Prop) (m : Nat) (hm : m < 100000) (h0 : I m ρ)
    (h : ∀ m ρ, I m ρ → (∃ ρ1, bnd (evE Φ c ρ) toB = .ok false ρ1 ∧ J ρ1) ∨ ∃ ρ1, bnd (evE Φ c ρ) toB = .ok true ρ1 ∧ ∃ ρ2, evS Φ b ρ1 = .ok .nx ρ2 ∧ ∃ m', m' < m ∧ I m' ρ2)
    (hk : ∀ ρ', J ρ' → P (f .nx ρ')) : P (bnd (evS Φ (.whl c b) ρ) f) := by
  obtain ⟨ρ', e, j⟩ := whlL_go (c := fun ρ => bnd (evE Φ c ρ) toB) (b := evS Φ b) I J h fuelN m ρ hm h0
  rw [s_whl, e]
  simp only [bnd_ok]
  exact hk ρ' j
theorem put_l0 (a b c d : D) : putC (.l [a, b, c]) (.int 0) d = some (.l [d, b, c]) := rfl
theorem put_l1 (a b c d : D) : putC (.l [a, b, c]) (.int 1) d = some (.l [a, d, c]) := rfl
/-- a source of draws -/
def Src (io : List D) : Prop := ∃ a b c : Int, io = [.int a, .int b, .int c] ∧ 0 ≤ b ∧ b < 4294967296 ∧ 0 < c ∧ c < 4294967296
theorem mulOk_l {i j : Int} (h : -(2 ^ 64) < i) (h2 : i < 2 ^ 64) : mulOk i j = true := by
  unfold mulOk; rw [decide_eq_true h, decide_eq_true h2]; rfl
theorem mulOk_r {i j : Int} (h : -(2 ^ 64) < j) (h2 : j < 2 ^ 64) : mulOk i j = true := by
  unfold mulOk; rw [decide_eq_true h, decide_eq_true h2, Bool.and_self, Bool.or_true]; rfl
theorem mul_ii {i j : Int} (h : mulOk i j = true) : binD .mul (.int i) (.int j) = some (.v (.int (i * j))) := by
  show (if mulOk i j = true then _ else none) = _
  rw [if_pos h]
theorem mod_ii {i j : Int} (h : 0 < j) : binD .mod (.int i) (.int j) = some (.v (.int (i % j))) := by
  show (if 0 < j then _ else none) = _
  rw [if_pos h]
theorem div_ii {i j : Int} (h : 0 < j) (h2 : j < 1073741824) : binD .fdiv (.int i) (.int j) = some (.v (.int (i / j))) := by
  have : divOk j = true := by unfold divOk; rw [decide_eq_true h, decide_eq_true h2]; rfl
  show (if divOk j = true then _ else none) = _
  rw [if_pos this]
@[simp] theorem le_sl0 : 0 ≤ sizeLine := by unfold sizeLine; omega
@[simp] theorem le_sl1 : 1 ≤ sizeLine := by unfold sizeLine; omega
@[simp] theorem le_sl2 : 2 ≤ sizeLine := by unfold sizeLine; omega
@[simp] theorem le_sl3 : 3 ≤ sizeLine := by unfold sizeLine; omega
@[simp] theorem le_sl4 : 4 ≤ sizeLine := by unfold sizeLine; omega
@[simp] theorem le_sl5 : 5 ≤ sizeLine := by unfold sizeLine; omega
@[simp] theorem le_sl6 : 6 ≤ sizeLine := by unfold sizeLine; omega
@[simp] theorem le_sl7 : 7 ≤ sizeLine := by unfold sizeLine; omega
@[simp] theorem le_sl8 : 8 ≤ sizeLine := by unfold sizeLine; omega
@[simp] theorem le_sl9 : 9 ≤ sizeLine := by unfold sizeLine; omega
@[simp] theorem le_sl10 : 10 ≤ sizeLine := by unfold sizeLine; omega
@[simp] theorem le_sl11 : 11 ≤ sizeLine := by unfold sizeLine; omega
@[simp] theorem le_sl12 : 12 ≤ sizeLine := by unfold sizeLine; omega
end Mx

namespace Mx
open PySem L2 Sn
abbrev K2 := Int × Int
abbrev Rw := Int × Int × Int
def key (r : Rw) : K2 := (r.1, r.2.1)
def kLt (a b : K2) : Bool := if a.1 = b.1 then decide (a.2 < b.2) else decide (a.1 < b.1)
def kLe (a b : K2) : Bool := !kLt b a
def lookA : List (K2 × Int) → K2 → Option Int
  | [], _ => none
  | q :: r, k => if q.1 = k then some q.2 else lookA r k
def keysA (t : List (K2 × Int)) : List K2 := t.map (·.1)
def putA (t : List (K2 × Int)) (k : K2) (v : Int) : List (K2 × Int) :=
  if k ∈ keysA t then t.map (fun q => if q.1 = k then (q.1, v) else q) else t ++ [(k, v)]
def addA (t : List (K2 × Int)) (k : K2) (s : Int) : List (K2 × Int) := putA t k ((lookA t k).getD 0 + s)
def addAll (t items : List (K2 × Int)) : List (K2 × Int) := items.foldl (fun t q => addA t q.1 q.2) t
def wt (items : List (K2 × Int)) (k : K2) : Int := (items.map fun q => if q.1 = k then q.2 else 0).sum
theorem kLt_iff {a b : K2} : kLt a b = true ↔ a.1 < b.1 ∨ (a.1 = b.1 ∧ a.2 < b.2) := by
  unfold kLt
  split
  · simp only [decide_eq_true_eq]; omega
  · simp only [decide_eq_true_eq]; omega
theorem kLe_iff {a b : K2} : kLe a b = true ↔ a.1 < b.1 ∨ (a.1 = b.1 ∧ a.2 ≤ b.2) := by
  unfold kLe
  rw [Bool.not_eq_true', ← Bool.not_eq_true, kLt_iff]
  omega
theorem kLt_trans {a b c : K2} (h1 : kLt a b = true) (h2 : kLt b c = true) : kLt a c = true := by
  rw [kLt_iff] at *; omega
theorem kLt_irr {a : K2} : ¬ kLt a a = true := by rw [kLt_iff]; omega
theorem kLe_ne {a b : K2} (h : kLe a b = true) (n : a ≠ b) : kLt a b = true := by
  rw [kLe_iff] at h; rw [kLt_iff]
  have : ¬ (a.1 = b.1 ∧ a.2 = b.2) := fun z => n (Prod.ext z.1 z.2)
  omega
theorem look_none : ∀ {t : List (K2 × Int)} {k : K2}, k ∉ keysA t → lookA t k = none
  | [], _, _ => rfl
  | q :: r, k, h => by
    have h1 : ¬ q.1 = k := fun z => h (by simp [keysA, z])
    rw [lookA, if_neg h1, look_none (fun z => h (by simp only [keysA, List.map_cons, List.mem_cons]; exact .inr z))]
theorem look_some : ∀ {t : List (K2 × Int)} {k : K2}, k ∈ keysA t → ∃ v, lookA t k = some v
  | [], _, h => by cases h
  | q :: r, k, h => by
    by_cases e : q.1 = k
    · exact ⟨q.2, by rw [lookA, if_pos e]⟩
    · simp only [keysA, List.map_cons, List.mem_cons] at h
      rcases h with h | h
      · exact absurd h.symm e
      · obtain ⟨v, hv⟩ := look_some (t := r) h
        exact ⟨v, by rw [lookA, if_neg e, hv]⟩
theorem look_map (k : K2) (v : Int) : ∀ (t : List (K2 × Int)) (k' : K2), k ∈ keysA t → lookA (t.map (fun q => if q.1 = k then (q.1, v) else q)) k' = if k' = k then some v else lookA t k'
  | [], _, h => by cases h
  | q :: r, k', h => by
    rw [List.map_cons]
    by_cases e : q.1 = k
    · rw [if_pos e]
      by_cases e2 : q.1 = k'
      · rw [lookA, if_pos e2, if_pos (e2.symm.trans e)]
      · have e3 : ¬ k' = k := fun z => e2 (e.trans z.symm)
        rw [lookA, if_neg e2, if_neg e3, lookA, if_neg e2]
        by_cases m : k ∈ keysA r
        · rw [look_map k v r k' m, if_neg e3]
        · have : r.map (fun q => if q.1 = k then (q.1, v) else q) = r := by
            refine (List.map_congr_left fun a ha => ?_).trans (List.map_id' r)
            rw [if_neg fun z => m (by rw [← z]; exact List.mem_map_of_mem ha)]
          rw [this]
    · rw [if_neg e]
      have m : k ∈ keysA r := by
        simp only [keysA, List.map_cons, List.mem_cons] at h
        rcases h with h | h
        · exact absurd h.symm e
        · exact h
      by_cases e2 : q.1 = k'
      · have e3 : ¬ k' = k := fun z => e (e2.trans z)
        rw [lookA, if_pos e2, if_neg e3, lookA, if_pos e2]
      · rw [lookA, if_neg e2, look_map k v r k' m]
        by_cases e3 : k' = k
        · rw [if_pos e3, if_pos e3]
        · rw [if_neg e3, if_neg e3, lookA, if_neg e2]
theorem look_app (k : K2) (v : Int) : ∀ (t : List (K2 × Int)) (k' : K2), k ∉ keysA t → lookA (t ++ [(k, v)]) k' = if k' = k then some v else lookA t k'
  | [], k', _ => by
    show (if k = k' then some v else none) = if k' = k then some v else none
    by_cases e : k' = k
    · rw [if_pos e, if_pos e.symm]
    · rw [if_neg e, if_neg fun z => e z.symm]
  | q :: r, k', h => by
    have h1 : ¬ q.1 = k := fun z => h (by simp [keysA, z])
    have h2 : k ∉ keysA r := fun z => h (by simp only [keysA, List.map_cons, List.mem_cons]; exact .inr z)
    rw [List.cons_append, lookA, lookA, look_app k v r k' h2]
    by_cases e2 : q.1 = k'
    · rw [if_pos e2, if_pos e2, if_neg fun z => h1 (e2.trans z)]
    · rw [if_neg e2, if_neg e2]
theorem look_put (t : List (K2 × Int)) (k k' : K2) (v : Int) : lookA (putA t k v) k' = if k' = k then some v else lookA t k' := by
  unfold putA
  split
  · rename_i h; exact look_map k v t k' h
  · rename_i h; exact look_app k v t k' h
theorem keys_put (t : List (K2 × Int)) (k : K2) (v : Int) : keysA (putA t k v) = if k ∈ keysA t then keysA t else keysA t ++ [k] := by
  unfold putA
  split
  · unfold keysA
    rw [List.map_map]
    refine List.map_congr_left fun q _ => ?_
    simp only [Function.comp_def]
    split <;> rfl
  · unfold keysA; rw [List.map_append]; rfl
structure TInv (t items : List (K2 × Int)) : Prop where
  nd : (keysA t).Nodup
  mem : ∀ k, k ∈ keysA t ↔ k ∈ keysA items
  val : ∀ k, k ∈ keysA t → lookA t k = some (wt items k)
theorem wt_app (a b : List (K2 × Int)) (k : K2) : wt (a ++ b) k = wt a k + wt b k := by unfold wt; rw [List.map_append, List.sum_append]
theorem wt_none : ∀ {items : List (K2 × Int)} {k : K2}, k ∉ keysA items → wt items k = 0
  | [], _, _ => rfl
  | q :: r, k, h => by
    have h1 : ¬ q.1 = k := fun z => h (by simp [keysA, z])
    have h2 : k ∉ keysA r := fun z => h (by simp only [keysA, List.map_cons, List.mem_cons]; exact .inr z)
    have := wt_none h2
    unfold wt at this ⊢
    rw [List.map_cons, List.sum_cons, if_neg h1, this]; rfl
theorem keys_app (a b : List (K2 × Int)) : keysA (a ++ b) = keysA a ++ keysA b := List.map_append
theorem TInv.add {t items : List (K2 × Int)} (h : TInv t items) (k : K2) (s : Int) : TInv (addA t k s) (items ++ [(k, s)]) := by
  have kk : ∀ k', k' ∈ keysA (addA t k s) ↔ k' ∈ keysA (items ++ [(k, s)]) := fun k' => by
    unfold addA
    have hs : keysA [(k, s)] = [k] := rfl
    rw [keys_put, keys_app, hs, List.mem_append, List.mem_singleton, ← h.mem k']
    split
    · rename_i c
      constructor
      · exact .inl
      · rintro (z | z)
        · exact z
        · rw [z]; exact c
    · rw [List.mem_append, List.mem_singleton]
  refine ⟨?_, kk, fun k' hk' => ?_⟩
  · unfold addA
    rw [keys_put]
    split
    · exact h.nd
    · rename_i c
      rw [List.nodup_append]
      refine ⟨h.nd, by simp, fun a ha b hb => ?_⟩
      simp at hb
      rw [hb]
      exact fun z => c (z ▸ ha)
  · unfold addA
    rw [look_put, wt_app]
    have w1 : wt [(k, s)] k' = if k = k' then s else 0 := by unfold wt; simp
    rw [w1]
    by_cases e : k' = k
    · rw [if_pos e, if_pos e.symm, e]
      by_cases c : k ∈ keysA t
      · rw [h.val k c]; rfl
      · rw [look_none c, wt_none (fun z => c ((h.mem k).mpr z))]; rfl
    · rw [if_neg e, if_neg fun z => e z.symm]
      have : k' ∈ keysA t := by
        rw [kk, keys_app] at hk'
        simp only [List.mem_append, keysA, List.map_cons, List.map_nil, List.mem_singleton] at hk'
        rcases hk' with z | z
        · rw [h.mem]; exact z
        · exact absurd z e
      rw [h.val k' this]; simp
theorem TInv.all : ∀ (items : List (K2 × Int)) {t pre : List (K2 × Int)}, TInv t pre → TInv (addAll t items) (pre ++ items)
  | [], t, pre, h => by rw [List.append_nil]; exact h
  | q :: r, t, pre, h => by
    have := TInv.all r (h.add q.1 q.2)
    rw [List.append_assoc] at this
    exact this
def tblOf (items : List (K2 × Int)) : List (K2 × Int) := addAll [] items
theorem tbl_inv (items : List (K2 × Int)) : TInv (tblOf items) items := TInv.all items (t := []) (pre := []) ⟨List.Pairwise.nil, fun _ => Iff.rfl, fun _ h => by cases h⟩
/-- the rows of a table, in order -/
def rowsOf (t : List (K2 × Int)) : List Rw := ((keysA t).mergeSort kLe).map fun k => (k.1, k.2, (lookA t k).getD 0)
def grp (items : List (K2 × Int)) : List Rw := rowsOf (tblOf items)
theorem kLe_sorted (l : List K2) : (l.mergeSort kLe).Pairwise fun a b => kLe a b = true :=
  List.pairwise_mergeSort (fun a b c h1 h2 => by rw [kLe_iff] at *; omega) (fun a b => by simp only [Bool.or_eq_true]; rw [kLe_iff, kLe_iff]; omega) l
theorem sorted_lt {l : List K2} (h : l.Nodup) : (l.mergeSort kLe).Pairwise fun a b => kLt a b = true := by
  have h1 := kLe_sorted l
  have h2 : (l.mergeSort kLe).Nodup := (List.mergeSort_perm l kLe).nodup_iff.mpr h
  exact (h1.and h2).imp fun ⟨a, b⟩ => kLe_ne a b
/-- rows in strict order of their keys -/
def Srt (rows : List Rw) : Prop := rows.Pairwise fun a b => kLt (key a) (key b) = true
theorem grp_srt (items : List (K2 × Int)) : Srt (grp items) := by
  unfold grp rowsOf Srt
  rw [List.pairwise_map]
  exact sorted_lt (tbl_inv items).nd
theorem mem_grp {items : List (K2 × Int)} {r : Rw} : r ∈ grp items ↔ key r ∈ keysA items ∧ r.2.2 = wt items (key r) := by
  unfold grp rowsOf
  have h := tbl_inv items
  simp only [List.mem_map, List.mem_mergeSort]
  constructor
  · rintro ⟨k, hk, rfl⟩
    exact ⟨(h.mem k).mp hk, by show (lookA _ _).getD 0 = _; rw [h.val k hk]; rfl⟩
  · intro ⟨h1, h2⟩
    refine ⟨key r, (h.mem _).mpr h1, ?_⟩
    rw [h.val _ ((h.mem _).mpr h1)]
    show (r.1, r.2.1, wt items (key r)) = r
    rw [← h2]
theorem srt_ext : ∀ {a b : List Rw}, Srt a → Srt b → (∀ r, r ∈ a ↔ r ∈ b) → a = b
  | [], [], _, _, _ => rfl
  | [], y :: b, _, _, h => absurd ((h y).mpr (List.mem_cons_self ..)) (by simp)
  | x :: a, [], _, _, h => absurd ((h x).mp (List.mem_cons_self ..)) (by simp)
  | x :: a, y :: b, ha, hb, h => by
    have ha' := List.pairwise_cons.mp ha
    have hb' := List.pairwise_cons.mp hb
    have e : x = y := by
      rcases List.mem_cons.mp ((h x).mp (List.mem_cons_self ..)) with e | m
      · exact e
      · rcases List.mem_cons.mp ((h y).mpr (List.mem_cons_self ..)) with e | m2
        · exact e.symm
        · exact absurd (kLt_trans (hb'.1 x m) (ha'.1 y m2)) kLt_irr
    subst e
    have : a = b := srt_ext ha'.2 hb'.2 fun r => by
      have := h r
      simp only [List.mem_cons] at this
      constructor
      · intro m
        rcases this.mp (.inr m) with e | m2
        · subst e; exact absurd (ha'.1 _ m) kLt_irr
        · exact m2
      · intro m
        rcases this.mpr (.inr m) with e | m2
        · subst e; exact absurd (hb'.1 _ m) kLt_irr
        · exact m2
    rw [this]
def itm (rows : List Rw) : List (K2 × Int) := rows.map fun r => (key r, r.2.2)
/-- the table of a list that stands in order is the list -/
theorem wt_itm : ∀ {rows : List Rw}, Srt rows → ∀ r ∈ rows, wt (itm rows) (key r) = r.2.2
  | [], _, _, h => by cases h
  | x :: a, ha, r, hr => by
    have ha' := List.pairwise_cons.mp ha
    show (((itm (x :: a)).map fun q => if q.1 = key r then q.2 else 0)).sum = _
    rw [itm, List.map_cons, List.map_cons, List.sum_cons]
    rcases List.mem_cons.mp hr with e | m
    · subst e
      rw [if_pos rfl]
      have : wt (itm a) (key r) = 0 := wt_none fun z => by
        unfold keysA itm at z
        rw [List.map_map] at z
        obtain ⟨y, hy, e⟩ := List.mem_map.mp z
        have := ha'.1 y hy
        simp only [Function.comp_def] at e
        rw [e] at this
        exact kLt_irr this
      unfold wt itm at this
      rw [this]; simp
    · have := wt_itm ha'.2 r m
      unfold wt itm at this
      rw [this, if_neg fun z => by
        have q := ha'.1 r m
        simp only at z
        rw [z] at q
        exact kLt_irr q]
      simp
theorem keys_itm (rows : List Rw) : keysA (itm rows) = rows.map key := by unfold keysA itm; rw [List.map_map]; rfl
theorem grp_itm {rows : List Rw} (h : Srt rows) : grp (itm rows) = rows := by
  refine srt_ext (grp_srt _) h fun r => ?_
  rw [mem_grp, keys_itm]
  constructor
  · intro ⟨h1, h2⟩
    obtain ⟨y, hy, e⟩ := List.mem_map.mp h1
    rw [← e, wt_itm h y hy] at h2
    have : y = r := by
      have e1 := congrArg Prod.fst e
      have e2 := congrArg Prod.snd e
      exact Prod.ext e1 (Prod.ext e2 h2.symm)
    rw [← this]; exact hy
  · intro hr
    exact ⟨List.mem_map_of_mem hr, (wt_itm h r hr).symm⟩
def sumP (P : K2 → Bool) (items : List (K2 × Int)) : Int := (items.map fun q => if P q.1 = true then q.2 else 0).sum
theorem sum_zero {α : Type} : ∀ (l : List α), (l.map fun _ => (0 : Int)).sum = 0
  | [] => rfl
  | _ :: l => by rw [List.map_cons, List.sum_cons, sum_zero l]; rfl
theorem sum_add {α : Type} (f g : α → Int) : ∀ l : List α, (l.map fun a => f a + g a).sum = (l.map f).sum + (l.map g).sum
  | [] => rfl
  | a :: l => by rw [List.map_cons, List.map_cons, List.map_cons, List.sum_cons, List.sum_cons, List.sum_cons, sum_add f g l]; omega
theorem sum_one (P : K2 → Bool) (k : K2) (s : Int) : ∀ {ks : List K2}, ks.Nodup → k ∈ ks → (ks.map fun x => if P x = true then (if k = x then s else 0) else 0).sum = if P k = true then s else 0
  | [], _, h => by cases h
  | x :: ks, nd, h => by
    rw [List.map_cons, List.sum_cons]
    have nd' := List.nodup_cons.mp nd
    by_cases e : k = x
    · subst e
      have : (ks.map fun x => if P x = true then (if k = x then s else 0) else 0) = ks.map fun _ => (0 : Int) := List.map_congr_left fun y hy => by
        have : ¬ k = y := fun z => nd'.1 (z ▸ hy)
        rw [if_neg this]; split <;> rfl
      rw [this, sum_zero]; simp
    · rcases List.mem_cons.mp h with h | h
      · exact absurd h e
      · rw [sum_one P k s nd'.2 h, if_neg e]; simp
theorem sum_wt (P : K2 → Bool) {ks : List K2} (nd : ks.Nodup) : ∀ {items : List (K2 × Int)}, (∀ q ∈ items, q.1 ∈ ks) → (ks.map fun k => if P k = true then wt items k else 0).sum = sumP P items
  | [], _ => by
    show (ks.map fun k => if P k = true then (0 : Int) else 0).sum = 0
    have : (ks.map fun k => if P k = true then (0 : Int) else 0) = ks.map fun _ => (0 : Int) := List.map_congr_left fun y _ => by split <;> rfl
    rw [this, sum_zero]
  | q :: r, h => by
    have e : (ks.map fun k => if P k = true then wt (q :: r) k else 0) = ks.map fun k => (if P k = true then (if q.1 = k then q.2 else 0) else 0) + (if P k = true then wt r k else 0) := List.map_congr_left fun k _ => by
      have : wt (q :: r) k = (if q.1 = k then q.2 else 0) + wt r k := by unfold wt; rw [List.map_cons, List.sum_cons]
      rw [this]; split <;> simp
    rw [e, sum_add, sum_one P q.1 q.2 nd (h q (List.mem_cons_self ..)), sum_wt P nd fun q hq => h q (List.mem_cons_of_mem _ hq)]
    unfold sumP
    rw [List.map_cons, List.sum_cons]
theorem sum_grp (P : K2 → Bool) (items : List (K2 × Int)) : sumP P (itm (grp items)) = sumP P items := by
  have h := tbl_inv items
  have p := List.mergeSort_perm (keysA (tblOf items)) kLe
  rw [← sum_wt P (ks := (keysA (tblOf items)).mergeSort kLe) (p.nodup_iff.mpr h.nd) (fun q hq => p.mem_iff.mpr ((h.mem _).mpr (List.mem_map_of_mem hq)))]
  unfold sumP grp rowsOf itm
  rw [List.map_map, List.map_map]
  congr 1
  refine List.map_congr_left fun k hk => ?_
  simp only [Function.comp_def, key]
  rw [h.val k (p.mem_iff.mp hk)]
  rfl
def mapK (φ : K2 → Option K2) (items : List (K2 × Int)) : List (K2 × Int) := items.filterMap fun q => (φ q.1).map fun k => (k, q.2)
theorem wt_mapK (φ : K2 → Option K2) (k : K2) : ∀ items, wt (mapK φ items) k = sumP (fun x => decide (φ x = some k)) items
  | [] => rfl
  | q :: r => by
    have ih := wt_mapK φ k r
    unfold mapK at ih ⊢
    unfold sumP at ih ⊢
    rw [List.map_cons, List.sum_cons, ← ih, List.filterMap_cons]
    cases e : φ q.1 with
    | none => simp [e]
    | some x =>
      simp only [Option.map_some]
      unfold wt
      rw [List.map_cons, List.sum_cons]
      simp [e]
theorem mem_mapK {φ : K2 → Option K2} {k : K2} {items : List (K2 × Int)} : k ∈ keysA (mapK φ items) ↔ ∃ x ∈ keysA items, φ x = some k := by
  unfold keysA mapK
  simp only [List.mem_map, List.mem_filterMap, Option.map_eq_some_iff]
  constructor
  · rintro ⟨q, ⟨p, hp, x, hx, rfl⟩, rfl⟩
    exact ⟨p.1, ⟨p, hp, rfl⟩, hx⟩
  · rintro ⟨x, ⟨p, hp, rfl⟩, hx⟩
    exact ⟨(k, p.2), ⟨p, hp, k, hx, rfl⟩, rfl⟩
theorem grp_congr {a b : List (K2 × Int)} (h1 : ∀ k, k ∈ keysA a ↔ k ∈ keysA b) (h2 : ∀ k, wt a k = wt b k) : grp a = grp b :=
  srt_ext (grp_srt a) (grp_srt b) fun r => by rw [mem_grp, mem_grp, h1, h2]
theorem keys_grp (items : List (K2 × Int)) (k : K2) : k ∈ keysA (itm (grp items)) ↔ k ∈ keysA items := by
  rw [keys_itm, List.mem_map]
  constructor
  · rintro ⟨r, hr, rfl⟩; exact (mem_grp.mp hr).1
  · intro h; exact ⟨(k.1, k.2, wt items k), mem_grp.mpr ⟨h, rfl⟩, rfl⟩
/-- a table of a table -/
theorem grp_mapK (φ : K2 → Option K2) (items : List (K2 × Int)) : grp (mapK φ (itm (grp items))) = grp (mapK φ items) := by
  refine grp_congr (fun k => ?_) fun k => ?_
  · rw [mem_mapK, mem_mapK]
    constructor
    · rintro ⟨x, hx, e⟩; exact ⟨x, (keys_grp items x).mp hx, e⟩
    · rintro ⟨x, hx, e⟩; exact ⟨x, (keys_grp items x).mpr hx, e⟩
  · rw [wt_mapK, wt_mapK, sum_grp]
theorem mapK_mapK (φ ψ : K2 → Option K2) (items : List (K2 × Int)) : mapK ψ (mapK φ items) = mapK (fun k => (φ k).bind ψ) items := by
  unfold mapK
  rw [List.filterMap_filterMap]
  congr 1
  funext q
  show _ = Option.map (fun k => (k, q.snd)) ((φ q.1).bind ψ)
  cases φ q.1 with
  | none => rfl
  | some x => rfl
theorem mapK_congr {φ ψ : K2 → Option K2} {items : List (K2 × Int)} (h : ∀ k ∈ keysA items, φ k = ψ k) : mapK φ items = mapK ψ items := by
  induction items with
  | nil => rfl
  | cons q r ih =>
    have ih := ih fun k hk => h k (by simp only [keysA, List.map_cons, List.mem_cons]; exact .inr hk)
    unfold mapK at ih ⊢
    rw [List.filterMap_cons, List.filterMap_cons, ih, h q.1 (by simp [keysA])]
theorem mapK_id {φ : K2 → Option K2} {items : List (K2 × Int)} (h : ∀ k ∈ keysA items, φ k = some k) : mapK φ items = items := by
  rw [mapK_congr h]
  unfold mapK
  simp
theorem sum_mapK (φ : K2 → Option K2) : ∀ items, sumP (fun _ => true) (mapK φ items) = sumP (fun k => (φ k).isSome) items
  | [] => rfl
  | q :: r => by
    have ih := sum_mapK φ r
    unfold sumP mapK at ih ⊢
    rw [List.map_cons, List.sum_cons, ← ih, List.filterMap_cons]
    cases e : φ q.1 with
    | none => simp [e]
    | some x => simp [e]
end Mx

namespace Mx
open PySem L2 Sn
/-- how many of the first x positions stay -/
def NN (S : List Int) : Nat → Nat
  | 0 => 0
  | x + 1 => NN S x + if (x : Int) ∈ S then 0 else 1
theorem NN_mono (S : List Int) {a b : Nat} (h : a ≤ b) : NN S a ≤ NN S b := by
  induction b with
  | zero => have : a = 0 := by omega
            subst this; exact Nat.le_refl _
  | succ b ih =>
    by_cases e : a = b + 1
    · subst e; exact Nat.le_refl _
    · have := ih (by omega)
      show NN S a ≤ NN S b + _
      omega
theorem NN_le (S : List Int) : ∀ a, NN S a ≤ a
  | 0 => Nat.le_refl _
  | a + 1 => by have := NN_le S a; show NN S a + (if (a : Int) ∈ S then 0 else 1) ≤ a + 1; split <;> omega
theorem NN_eq (S : List Int) (a : Nat) : ∀ d, NN S (a + d) = NN S a ↔ ∀ i < d, ((a + i : Nat) : Int) ∈ S
  | 0 => ⟨fun _ i h => absurd h (Nat.not_lt_zero i), fun _ => rfl⟩
  | d + 1 => by
    have ih := NN_eq S a d
    have m := NN_mono S (show a ≤ a + d by omega)
    have e : NN S (a + (d + 1)) = NN S (a + d) + if ((a + d : Nat) : Int) ∈ S then 0 else 1 := rfl
    rw [e]
    constructor
    · intro h i hi
      by_cases c : ((a + d : Nat) : Int) ∈ S
      · rw [if_pos c] at h
        by_cases z : i = d
        · rw [z]; exact c
        · exact ih.mp (by omega) i (by omega)
      · rw [if_neg c] at h; omega
    · intro h
      rw [if_pos (h d (by omega)), ih.mpr fun i hi => h i (by omega)]; rfl
def enumI : Nat → List Int → List (Int × Int)
  | _, [] => []
  | n, x :: r => ((n : Nat), x) :: enumI (n + 1) r
theorem enumD_eq : ∀ (l : List Int) (n : Nat), enumD n (l.map .int) = (enumI n l).map fun q => .tuple [.int q.1, .int q.2]
  | [], _ => rfl
  | x :: r, n => by rw [List.map_cons, enumD, enumI, List.map_cons, enumD_eq r (n + 1)]
theorem enumI_app : ∀ (a b : List Int) (n : Nat), enumI n (a ++ b) = enumI n a ++ enumI (n + a.length) b
  | [], b, n => rfl
  | x :: a, b, n => by
    rw [List.cons_append, enumI, enumI, enumI_app a b (n + 1), List.cons_append, List.length_cons]
    congr 3; omega
def leftOf (S : List Int) (c : Int) : List Int := (rngI 0 (c + 1)).filter fun p => !decide (p ∈ S)
def leftN (S : List Int) : Nat → List Int
  | 0 => []
  | x + 1 => leftN S x ++ if (x : Int) ∈ S then [] else [(x : Int)]
theorem rngI_nat (n : Nat) : rngI 0 (n : Int) = (List.range n).map (fun i : Nat => (i : Int)) := by
  unfold rngI
  have : ((n : Int) - 0).toNat = n := by omega
  rw [this]
  exact List.map_congr_left fun i _ => by omega
theorem leftN_eq (S : List Int) : ∀ n : Nat, (rngI 0 (n : Int)).filter (fun p => !decide (p ∈ S)) = leftN S n
  | 0 => by rw [rngI_nat]; rfl
  | n + 1 => by
    have ih := leftN_eq S n
    rw [rngI_nat] at ih ⊢
    rw [List.range_succ, List.map_append, List.filter_append, ih, leftN]
    congr 1
    by_cases c : (n : Int) ∈ S <;> simp [c]
theorem leftOf_nat (S : List Int) (n : Nat) : leftOf S (n : Int) = leftN S (n + 1) := by
  unfold leftOf
  rw [← leftN_eq]; rfl
theorem len_leftN (S : List Int) : ∀ n, (leftN S n).length = NN S n
  | 0 => rfl
  | n + 1 => by rw [leftN, NN, List.length_append, len_leftN S n]; split <;> rfl
def held (left : List Int) (f l : Int) : List Int := ((enumI 0 left).filter fun q => decide (f ≤ q.2) && decide (q.2 ≤ l)).map (·.1)
theorem rngI_empty {a b : Int} (h : b ≤ a) : rngI a b = [] := by
  unfold rngI
  have : (b - a).toNat = 0 := by omega
  rw [this]; rfl
theorem rngI_snoc {a b : Int} (h : a ≤ b) : rngI a (b + 1) = rngI a b ++ [b] := by
  unfold rngI
  have : (b + 1 - a).toNat = (b - a).toNat + 1 := by omega
  rw [this, List.range_succ, List.map_append]
  congr 1
  show [a + (((b - a).toNat : Nat) : Int)] = [b]
  congr 1; omega
theorem fe1 {f l a n : Int} (h : (decide (f ≤ n) && decide (n ≤ l)) = true) : List.filter (fun q : Int × Int => decide (f ≤ q.2) && decide (q.2 ≤ l)) [(a, n)] = [(a, n)] := List.filter_cons_of_pos h
theorem fe2 {f l a n : Int} (h : ¬ (decide (f ≤ n) && decide (n ≤ l)) = true) : List.filter (fun q : Int × Int => decide (f ≤ q.2) && decide (q.2 ≤ l)) [(a, n)] = [] := List.filter_cons_of_neg h
theorem if_iff {p q : Prop} [Decidable p] [Decidable q] (h : p ↔ q) (a b : Nat) : (if p then a else b) = if q then a else b := by
  by_cases c : p
  · rw [if_pos c, if_pos (h.mp c)]
  · rw [if_neg c, if_neg fun z => c (h.mpr z)]
theorem held_leftN (S : List Int) (f l : Nat) (hfl : f ≤ l + 1) : ∀ n : Nat, held (leftN S n) f l = rngI (NN S (min f n)) (NN S (min (l + 1) n))
  | 0 => by
    rw [Nat.min_zero, Nat.min_zero, rngI_empty (Int.le_refl _)]; rfl
  | n + 1 => by
    have ih := held_leftN S f l hfl n
    unfold held at ih ⊢
    rw [leftN, enumI_app, List.filter_append, List.map_append, ih, len_leftN, Nat.zero_add]
    by_cases c : (n : Int) ∈ S
    · rw [if_pos c]
      have e : NN S (n + 1) = NN S n := by show NN S n + (if (n : Int) ∈ S then 0 else 1) = _; rw [if_pos c]; rfl
      have h1 : NN S (min f (n + 1)) = NN S (min f n) := by
        by_cases z : f ≤ n
        · rw [Nat.min_eq_left z, Nat.min_eq_left (by omega)]
        · rw [Nat.min_eq_right (by omega), Nat.min_eq_right (by omega), e]
      have h2 : NN S (min (l + 1) (n + 1)) = NN S (min (l + 1) n) := by
        by_cases z : l + 1 ≤ n
        · rw [Nat.min_eq_left z, Nat.min_eq_left (by omega)]
        · rw [Nat.min_eq_right (by omega), Nat.min_eq_right (by omega), e]
      rw [h1, h2]
      show _ ++ [] = _
      rw [List.append_nil]
    · rw [if_neg c]
      have e : NN S (n + 1) = NN S n + 1 := by show NN S n + (if (n : Int) ∈ S then 0 else 1) = _; rw [if_neg c]
      show _ ++ List.map (·.1) (List.filter (fun q : Int × Int => decide ((f : Int) ≤ q.2) && decide (q.2 ≤ (l : Int))) [(((NN S n : Nat) : Int), (n : Int))]) = _
      by_cases h1 : f ≤ n
      · by_cases h2 : n ≤ l
        · have : (decide ((f : Int) ≤ (n : Int)) && decide ((n : Int) ≤ (l : Int))) = true := by simp; omega
          rw [fe1 this, Nat.min_eq_left h1, Nat.min_eq_left (show f ≤ n + 1 by omega), Nat.min_eq_right (show n ≤ l + 1 by omega), Nat.min_eq_right (show n + 1 ≤ l + 1 by omega), e]
          have hm := NN_mono S h1
          show _ ++ [((NN S n : Nat) : Int)] = _
          rw [← rngI_snoc (by omega)]; rfl
        · have : ¬ (decide ((f : Int) ≤ (n : Int)) && decide ((n : Int) ≤ (l : Int))) = true := by simp; omega
          rw [fe2 this, Nat.min_eq_left h1, Nat.min_eq_left (show f ≤ n + 1 by omega), Nat.min_eq_left (show l + 1 ≤ n by omega), Nat.min_eq_left (show l + 1 ≤ n + 1 by omega)]
          show _ ++ [] = _
          rw [List.append_nil]
      · have : ¬ (decide ((f : Int) ≤ (n : Int)) && decide ((n : Int) ≤ (l : Int))) = true := by simp; omega
        rw [fe2 this, Nat.min_eq_right (show n ≤ f by omega), Nat.min_eq_right (show n + 1 ≤ f by omega), Nat.min_eq_right (show n ≤ l + 1 by omega), Nat.min_eq_right (show n + 1 ≤ l + 1 by omega), rngI_empty (Int.le_refl _), rngI_empty (Int.le_refl _)]
        rfl
/-- where a run of positions lies after the deletions -/
def ph (S : List Int) (k : K2) : Option K2 := if NN S k.1.toNat < NN S (k.2 + 1).toNat then some ((NN S k.1.toNat : Int), (NN S (k.2 + 1).toNat : Int) - 1) else none
/-- .. as the program finds it -/
def ends : List Int → Option K2
  | [] => none
  | a :: r => some (a, (a :: r).getLast (by simp))
theorem ends_rng {a b : Int} : ends (rngI a b) = if a < b then some (a, b - 1) else none := by
  by_cases h : a < b
  · rw [if_pos h]
    obtain ⟨d, rfl⟩ : ∃ d : Nat, b = a + (d : Int) + 1 := ⟨(b - a - 1).toNat, by omega⟩
    clear h
    have e1 : rngI a (a + (d : Int) + 1) = rngI a (a + d) ++ [a + d] := rngI_snoc (by omega)
    have e2 : ∀ (l : List Int) (x y : Int), l ++ [y] = x :: (l ++ [y]).tail → ends (l ++ [y]) = some (x, y) := by
      intro l x y h
      rw [h]
      unfold ends
      simp only
      congr 2
      have : ∀ (m : List Int) (hm : m ≠ []), m = l ++ [y] → m.getLast hm = y := by
        intro m hm e
        subst e
        simp
      exact this _ _ h.symm
    rw [e1, e2 _ a (a + d)]
    · congr 2; omega
    · cases d with
      | zero => rw [show a + ((0 : Nat) : Int) = a by omega, rngI_empty (Int.le_refl _)]; rfl
      | succ d =>
        have : rngI a (a + ((d + 1 : Nat) : Int)) = a :: (rngI a (a + ((d + 1 : Nat) : Int))).tail := by
          unfold rngI
          have : (a + ((d + 1 : Nat) : Int) - a).toNat = d + 1 := by omega
          rw [this, List.range_succ_eq_map, List.map_cons]
          simp
        rw [this]; rfl
  · rw [if_neg h, rngI_empty (by omega)]; rfl
theorem ends_held (S : List Int) {c : Int} {k : K2} (h0 : 0 ≤ k.1) (h1 : k.1 ≤ k.2) (h2 : k.2 ≤ c) : ends (held (leftOf S c) k.1 k.2) = ph S k := by
  obtain ⟨f, hf⟩ : ∃ f : Nat, k.1 = f := ⟨k.1.toNat, by omega⟩
  obtain ⟨l, hl⟩ : ∃ l : Nat, k.2 = l := ⟨k.2.toNat, by omega⟩
  obtain ⟨n, hn⟩ : ∃ n : Nat, c = n := ⟨c.toNat, by omega⟩
  rw [hn, leftOf_nat, hf, hl, held_leftN S f l (by omega), Nat.min_eq_left (by omega), Nat.min_eq_left (by omega), ends_rng]
  unfold ph
  rw [hf, hl]
  have e1 : ((f : Int)).toNat = f := by omega
  have e2 : ((l : Int) + 1).toNat = l + 1 := by omega
  rw [e1, e2]
  by_cases q : NN S f < NN S (l + 1)
  · rw [if_pos q, if_pos (by omega)]
  · rw [if_neg q, if_neg (by omega)]
/-- the set that is left, counted anew -/
def renum (p : Int) (S S' : List Int) : Prop := (∀ y : Int, 0 ≤ y → y < p → (y ∈ S' ↔ y ∈ S)) ∧ ∀ y : Int, p ≤ y → (y ∈ S' ↔ y + 1 ∈ S)
theorem NN_one (p : Nat) : ∀ x : Nat, NN [(p : Int)] x = if p < x then x - 1 else x
  | 0 => rfl
  | x + 1 => by
    show NN [(p : Int)] x + (if (x : Int) ∈ [(p : Int)] then 0 else 1) = _
    rw [NN_one p x]
    by_cases e : x = p
    · subst e; simp
    · have : ¬ (x : Int) ∈ [(p : Int)] := by simp; omega
      rw [if_neg this]
      by_cases c : p < x
      · rw [if_pos c, if_pos (by omega)]; omega
      · rw [if_neg c, if_neg (by omega)]
theorem NN_renum {p : Nat} {S S' : List Int} (h : renum p S S') (hp : (p : Int) ∈ S) : ∀ x : Nat, NN S' (NN [(p : Int)] x) = NN S x
  | 0 => rfl
  | x + 1 => by
    have ih := NN_renum h hp x
    rw [NN_one] at ih ⊢
    by_cases e : x = p
    · subst e
      rw [if_neg (by omega)] at ih
      rw [if_pos (by omega)]
      show NN S' x = NN S x + (if (x : Int) ∈ S then 0 else 1)
      rw [if_pos hp, ih]; rfl
    · by_cases c : p < x
      · rw [if_pos c] at ih
        rw [if_pos (by omega)]
        obtain ⟨y, rfl⟩ : ∃ y, x = y + 1 := ⟨x - 1, by omega⟩
        show NN S' y + (if (y : Int) ∈ S' then 0 else 1) = NN S (y + 1) + (if ((y + 1 : Nat) : Int) ∈ S then 0 else 1)
        have ih' : NN S' y = NN S (y + 1) := ih
        have := h.2 (y : Int) (by omega)
        rw [ih', if_iff (this.trans (by rw [show ((y : Int) + 1) = ((y + 1 : Nat) : Int) by omega]))]
      · rw [if_neg c] at ih
        rw [if_neg (by omega)]
        show NN S' x + (if (x : Int) ∈ S' then 0 else 1) = NN S x + (if (x : Int) ∈ S then 0 else 1)
        rw [ih, if_iff (h.1 (x : Int) (by omega) (by omega))]
theorem ph_renum {p : Int} {S S' : List Int} (h0 : 0 ≤ p) (h : renum p S S') (hp : p ∈ S) (k : K2) : (ph [p] k).bind (ph S') = ph S k := by
  obtain ⟨q, rfl⟩ : ∃ q : Nat, p = q := ⟨p.toNat, by omega⟩
  have e := NN_renum h hp
  unfold ph
  by_cases c : NN [(q : Int)] k.1.toNat < NN [(q : Int)] (k.2 + 1).toNat
  · rw [if_pos c]
    simp only [Option.bind_some]
    have e1 : ((NN [(q : Int)] k.1.toNat : Nat) : Int).toNat = NN [(q : Int)] k.1.toNat := by omega
    have e2 : (((NN [(q : Int)] (k.2 + 1).toNat : Nat) : Int) - 1 + 1).toNat = NN [(q : Int)] (k.2 + 1).toNat := by omega
    rw [e1, e2, e, e]
  · rw [if_neg c]
    simp only [Option.bind_none]
    have m := NN_mono S' (show NN [(q : Int)] (k.2 + 1).toNat ≤ NN [(q : Int)] k.1.toNat by omega)
    rw [e, e] at m
    rw [if_neg (by omega)]
theorem NN_nil : ∀ x, NN [] x = x
  | 0 => rfl
  | x + 1 => by show NN [] x + (if (x : Int) ∈ ([] : List Int) then 0 else 1) = _; rw [NN_nil x]; rfl
theorem ph_nil {k : K2} (h0 : 0 ≤ k.1) (h1 : k.1 ≤ k.2) : ph [] k = some k := by
  unfold ph
  rw [NN_nil, NN_nil, if_pos (by omega)]
  congr 1
  exact Prod.ext (by show ((k.1.toNat : Nat) : Int) = k.1; omega) (by show (((k.2 + 1).toNat : Nat) : Int) - 1 = k.2; omega)
def redRows (S : List Int) (rows : List Rw) : List Rw := grp (mapK (ph S) (itm rows))
theorem red_two {p : Int} {S S' : List Int} (h0 : 0 ≤ p) (h : renum p S S') (hp : p ∈ S) (rows : List Rw) : redRows S' (redRows [p] rows) = redRows S rows := by
  unfold redRows
  rw [grp_mapK, mapK_mapK]
  congr 1
  exact mapK_congr fun k _ => ph_renum h0 h hp k
theorem red_nil {rows : List Rw} (hs : Srt rows) (hk : ∀ r ∈ rows, 0 ≤ r.1 ∧ r.1 ≤ r.2.1) : redRows [] rows = rows := by
  unfold redRows
  rw [mapK_id, grp_itm hs]
  intro k hk'
  rw [keys_itm] at hk'
  obtain ⟨r, hr, rfl⟩ := List.mem_map.mp hk'
  exact ph_nil (hk r hr).1 (hk r hr).2
def gone (S : List Int) (r : Rw) : Bool := (rngI r.1 (r.2.1 + 1)).all fun p => decide (p ∈ S)
def frd (S : List Int) (rows : List Rw) : Int := (rows.map fun r => if gone S r = true then r.2.2 else 0).sum
def tot (rows : List Rw) : Int := (rows.map fun r => r.2.2).sum
theorem gone_ph (S : List Int) {r : Rw} (h0 : 0 ≤ r.1) (h1 : r.1 ≤ r.2.1) : gone S r = !(ph S (key r)).isSome := by
  obtain ⟨f, hf⟩ : ∃ f : Nat, r.1 = f := ⟨r.1.toNat, by omega⟩
  obtain ⟨d, hd⟩ : ∃ d : Nat, r.2.1 = f + d := ⟨(r.2.1 - f).toNat, by omega⟩
  have e := NN_eq S f (d + 1)
  have m := NN_mono S (show f ≤ f + (d + 1) by omega)
  have g : gone S r = true ↔ NN S (f + (d + 1)) = NN S f := by
    rw [e]
    unfold gone
    simp only [List.all_eq_true, decide_eq_true_eq, mem_rngI]
    constructor
    · intro h i hi
      exact h _ ⟨by omega, by omega⟩
    · intro h p ⟨q1, q2⟩
      have := h (p.toNat - f) (by omega)
      rw [show ((f + (p.toNat - f) : Nat) : Int) = p by omega] at this
      exact this
  unfold ph key
  simp only
  rw [hf, hd, show ((f : Int)).toNat = f by omega, show ((f : Int) + (d : Int) + 1).toNat = f + (d + 1) by omega]
  by_cases c : NN S f < NN S (f + (d + 1))
  · rw [if_pos c]
    have : ¬ gone S r = true := fun z => by have := g.mp z; omega
    simpa using this
  · rw [if_neg c]
    have : gone S r = true := g.mpr (by omega)
    simpa using this
theorem tot_red (S : List Int) {rows : List Rw} (hk : ∀ r ∈ rows, 0 ≤ r.1 ∧ r.1 ≤ r.2.1) : frd S rows + tot (redRows S rows) = tot rows := by
  have t : ∀ l : List Rw, tot l = sumP (fun _ => true) (itm l) := fun l => by unfold tot sumP itm; rw [List.map_map]; rfl
  unfold redRows
  rw [t (grp _), sum_grp, sum_mapK]
  unfold frd sumP itm tot
  rw [List.map_map, ← sum_add]
  congr 1
  refine List.map_congr_left fun r hr => ?_
  rw [gone_ph S (hk r hr).1 (hk r hr).2]
  simp only [Function.comp_def]
  cases (ph S (key r)).isSome <;> simp
end Mx

namespace Mx
open PySem L2 Sn
def eK (k : K2) : D := .tuple [.int k.1, .int k.2]
def eR (r : Rw) : D := .tuple [.int r.1, .int r.2.1, .int r.2.2]
def eT (l : List Int) : D := .tuple (l.map .int)
def eTb (t : List (K2 × Int)) : List (List Key × D) := t.map fun q => ([.inl q.1.1, .inl q.1.2], .int q.2)
theorem keyL_eK (k : K2) : keyL (eK k) = some [.inl k.1, .inl k.2] := rfl
theorem keq (a b : K2) : (([.inl a.1, .inl a.2] : List Key) = [.inl b.1, .inl b.2]) ↔ a = b := by
  constructor
  · intro h
    injection h with h1 h2
    injection h2 with h2 _
    injection h1 with h1
    injection h2 with h2
    exact Prod.ext h1 h2
  · intro h; rw [h]
theorem look_eTb (k : K2) : ∀ t : List (K2 × Int), lookD (eTb t) [.inl k.1, .inl k.2] = (lookA t k).map PyData.int
  | [] => rfl
  | q :: r => by
    show (if ([.inl q.1.1, .inl q.1.2] : List Key) = [.inl k.1, .inl k.2] then some (PyData.int q.2) else lookD (eTb r) _) = _
    by_cases e : q.1 = k
    · rw [if_pos ((keq _ _).mpr e), lookA, if_pos e]; rfl
    · rw [if_neg fun z => e ((keq _ _).mp z), lookA, if_neg e, look_eTb k r]
theorem has_eTb (k : K2) (t : List (K2 × Int)) : hasD (eTb t) [.inl k.1, .inl k.2] = decide (k ∈ keysA t) := by
  unfold hasD eTb keysA
  rw [List.any_map]
  rw [Bool.eq_iff_iff]
  simp only [List.any_eq_true, Function.comp_def, decide_eq_true_eq, List.mem_map]
  constructor
  · rintro ⟨q, hq, e⟩; exact ⟨q, hq, (keq _ _).mp e⟩
  · rintro ⟨q, hq, e⟩; exact ⟨q, hq, (keq _ _).mpr e⟩
theorem put_eTb (k : K2) (v : Int) (t : List (K2 × Int)) : putD (eTb t) [.inl k.1, .inl k.2] (.int v) = eTb (putA t k v) := by
  unfold putD putA
  rw [has_eTb]
  by_cases c : k ∈ keysA t
  · rw [if_pos (decide_eq_true c), if_pos c]
    unfold eTb
    rw [List.map_map, List.map_map]
    refine List.map_congr_left fun q _ => ?_
    simp only [Function.comp_def]
    by_cases e : q.1 = k
    · rw [if_pos ((keq _ _).mpr e), if_pos e]
    · rw [if_neg fun z => e ((keq _ _).mp z), if_neg e]
  · rw [if_neg (by simpa using c), if_neg c]
    unfold eTb
    rw [List.map_append]; rfl
@[simp] theorem getC_eTb (k : K2) (t : List (K2 × Int)) : getC (.t (eTb t)) (eK k) = some ((lookA t k).map PyData.int) := by
  show (keyL (eK k)).map (lookD (eTb t)) = _
  rw [keyL_eK, Option.map_some, look_eTb]
theorem len_eTb (t : List (K2 × Int)) : (eTb t).length = t.length := List.length_map ..
theorem putC_eTb (k : K2) (v : Int) {t : List (K2 × Int)} (h : t.length < sizeLine) : putC (.t (eTb t)) (eK k) (.int v) = some (.t (eTb (putA t k v))) := by
  show (if (eTb t).length < sizeLine then (keyL (eK k)).map fun k => C.t (putD (eTb t) k (.int v)) else none) = _
  rw [len_eTb, if_pos h, keyL_eK, Option.map_some, put_eTb]
theorem keys_eTb (t : List (K2 × Int)) : (eTb t).map (fun p => PyData.tuple (p.1.map dKey)) = (keysA t).map eK := by
  unfold eTb keysA
  rw [List.map_map, List.map_map]; rfl
theorem alike_eK (a b : K2) : PySem.W.alike (eK a) (eK b) = true := by
  unfold eK
  simp [PySem.W.alike, PySem.W.alikeAll]
theorem le_eK (a b : K2) : PySem.W.dataLe false id (eK a) (eK b) = kLe a b := by
  show (!PySem.W.dataLt (eK b) (eK a)) = _
  have h := PySem.W.DatumOrd.lt_eq b a
  have e : ∀ k : K2, PySem.W.Datum.toD k = eK k := fun _ => rfl
  rw [e, e] at h
  rw [h]
  rfl
theorem depth_eK : ∀ l : List K2, PyData.depthAll (l.map eK) ≤ 1
  | [] => Nat.zero_le _
  | a :: l => by
    have := depth_eK l
    rw [List.map_cons, PyData.depthAll]
    have : PyData.depth (eK a) = 1 := by unfold eK; simp [PyData.depth, PyData.depthAll]
    omega
theorem sort_keys (l : List K2) : biD .sorted [.list (l.map eK)] = some (.nw (.l ((l.mergeSort kLe).map eK))) := by
  have h1 : alikeB (l.map eK) = true := by
    unfold alikeB
    simp only [List.all_eq_true, List.mem_map]
    rintro _ ⟨a, _, rfl⟩ _ ⟨b, _, rfl⟩
    exact alike_eK a b
  have h2 : sortB (l.map eK) = true := by
    unfold sortB
    rw [Bool.or_eq_true]
    refine .inl ?_
    simp only [List.all_eq_true, List.mem_map]
    rintro _ ⟨a, _, rfl⟩
    rfl
  have h3 : PyData.depth (.list (l.map eK)) ≤ 60 := by
    have := depth_eK l
    rw [PyData.depth]; omega
  show (if (alikeB (l.map eK) && (sortB (l.map eK) && decide (PyData.depth (.list (l.map eK)) ≤ 60))) = true then some (R.nw (.l (sortD (l.map eK)))) else none) = _
  rw [h1, h2, decide_eq_true h3, show (true && (true && true)) = true from rfl, if_pos rfl]
  unfold sortD
  rw [List.map_mergeSort (r := kLe) (s := PySem.W.dataLe false id) (f := eK) fun a _ b _ => (le_eK a b).symm]
theorem ixT_k (t : List (K2 × Int)) (k : K2) (h : k ∈ keysA t) : (lookA t k).map PyData.int = some (.int ((lookA t k).getD 0)) := by
  obtain ⟨v, hv⟩ := look_some h
  rw [hv]; rfl
@[simp] theorem add_tt (a b : List D) (h : a.length + b.length ≤ sizeLine) : binD .add (.tuple a) (.tuple b) = some (.v (.tuple (a ++ b))) := by
  show (if a.length + b.length ≤ sizeLine then _ else none) = _
  rw [if_pos h]
end Mx

namespace Mx
open PySem L2 Sn
structure Lay where
  c : Int
  rows : List Rw
def goodR (c : Int) (r : Rw) : Prop := 0 ≤ r.1 ∧ r.1 ≤ r.2.1 ∧ r.2.1 ≤ c
structure WL (L : Lay) : Prop where
  c0 : 0 ≤ L.c
  c1 : L.c ≤ 10
  good : ∀ r ∈ L.rows, goodR L.c r
  pos : ∀ r ∈ L.rows, 1 ≤ r.2.2
  srt : Srt L.rows
  len : L.rows.length ≤ 1000
  tot : tot L.rows ≤ 1000000000000000
structure VS (c : Int) (S : List Int) : Prop where
  mem : ∀ v ∈ S, 0 ≤ v ∧ v < c
  srt : S.Pairwise fun a b => a < b
def red (L : Lay) (S : List Int) : Lay := ⟨(leftOf S L.c).length - 1, redRows S L.rows⟩
theorem frd_cons (S : List Int) (r : Rw) (rem : List Rw) : frd S (r :: rem) = (if gone S r = true then r.2.2 else 0) + frd S rem := by unfold frd; simp
theorem tot_cons (r : Rw) (rem : List Rw) : tot (r :: rem) = r.2.2 + tot rem := by unfold tot; simp
theorem frd_nn (S : List Int) : ∀ {rows : List Rw}, (∀ r ∈ rows, 1 ≤ r.2.2) → 0 ≤ frd S rows
  | [], _ => Int.le_refl _
  | r :: rem, h => by
    have := frd_nn S (rows := rem) fun a ha => h a (List.mem_cons_of_mem _ ha)
    have := h r (List.mem_cons_self ..)
    rw [frd_cons]; split <;> omega
theorem le_tot : ∀ {rows : List Rw}, (∀ r ∈ rows, 1 ≤ r.2.2) → 0 ≤ tot rows ∧ ∀ r ∈ rows, r.2.2 ≤ tot rows
  | [], _ => ⟨Int.le_refl _, fun _ h => by cases h⟩
  | r :: rem, h => by
    have ih := le_tot (rows := rem) fun a ha => h a (List.mem_cons_of_mem _ ha)
    have h1 := h r (List.mem_cons_self ..)
    rw [tot_cons]
    refine ⟨by omega, fun a ha => ?_⟩
    rcases List.mem_cons.mp ha with rfl | ha
    · omega
    · have := ih.2 a ha; omega
theorem wt_pos : ∀ {items : List (K2 × Int)}, (∀ q ∈ items, 1 ≤ q.2) → ∀ k, 0 ≤ wt items k ∧ (k ∈ keysA items → 1 ≤ wt items k)
  | [], _, k => ⟨Int.le_refl _, fun h => by cases h⟩
  | q :: r, h, k => by
    have ih := wt_pos (items := r) (fun a ha => h a (List.mem_cons_of_mem _ ha)) k
    have h1 := h q (List.mem_cons_self ..)
    have e : wt (q :: r) k = (if q.1 = k then q.2 else 0) + wt r k := by unfold wt; rw [List.map_cons, List.sum_cons]
    rw [e]
    by_cases c : q.1 = k
    · rw [if_pos c]; exact ⟨by omega, fun _ => by omega⟩
    · rw [if_neg c]
      refine ⟨by omega, fun hk => ?_⟩
      simp only [keysA, List.map_cons, List.mem_cons] at hk
      rcases hk with hk | hk
      · exact absurd hk.symm c
      · have := ih.2 hk; omega
theorem len_put (t : List (K2 × Int)) (k : K2) (v : Int) : (putA t k v).length ≤ t.length + 1 := by
  unfold putA
  split
  · rw [List.length_map]; omega
  · rw [List.length_append]; exact Nat.le_refl _
theorem len_addAll : ∀ (items t : List (K2 × Int)), (addAll t items).length ≤ t.length + items.length
  | [], t => Nat.le_refl _
  | q :: r, t => by
    have := len_addAll r (addA t q.1 q.2)
    have := len_put t q.1 ((lookA t q.1).getD 0 + q.2)
    show (addAll (addA t q.1 q.2) r).length ≤ _
    unfold addA at *
    rw [List.length_cons]; omega
theorem len_red (S : List Int) (rows : List Rw) : (redRows S rows).length ≤ rows.length := by
  unfold redRows grp rowsOf
  rw [List.length_map, List.length_mergeSort]
  unfold keysA tblOf
  rw [List.length_map]
  have h1 := len_addAll (mapK (ph S) (itm rows)) []
  have h2 : (mapK (ph S) (itm rows)).length ≤ (itm rows).length := List.length_filterMap_le ..
  have h3 : (itm rows).length = rows.length := List.length_map ..
  simp at h1
  omega
theorem left_len (S : List Int) {c : Int} (h : 0 ≤ c) : ((leftOf S c).length : Int) = NN S (c.toNat + 1) := by
  obtain ⟨n, rfl⟩ : ∃ n : Nat, c = n := ⟨c.toNat, by omega⟩
  rw [leftOf_nat, len_leftN]
  have : ((n : Int)).toNat = n := by omega
  rw [this]
theorem red_c {c : Int} {S : List Int} (h : 0 ≤ c) (hS : VS c S) : ((leftOf S c).length : Int) - 1 = NN S c.toNat := by
  rw [left_len S h]
  have : ¬ ((c.toNat : Nat) : Int) ∈ S := fun z => by have := hS.mem _ z; omega
  show ((NN S c.toNat + (if ((c.toNat : Nat) : Int) ∈ S then 0 else 1) : Nat) : Int) - 1 = _
  rw [if_neg this]; omega
theorem WL.red {L : Lay} (h : WL L) {S : List Int} (hS : VS L.c S) : WL (red L S) := by
  have hk : ∀ r ∈ L.rows, 0 ≤ r.1 ∧ r.1 ≤ r.2.1 := fun r hr => ⟨(h.good r hr).1, (h.good r hr).2.1⟩
  have hc := red_c h.c0 hS
  have hv : ∀ q ∈ mapK (ph S) (itm L.rows), 1 ≤ q.2 := fun q hq => by
    unfold mapK itm at hq
    simp only [List.mem_filterMap, List.mem_map, Option.map_eq_some_iff] at hq
    obtain ⟨p, ⟨r, hr, rfl⟩, k, _, rfl⟩ := hq
    exact h.pos r hr
  have mem : ∀ r ∈ redRows S L.rows, ∃ x ∈ L.rows, ph S (key x) = some (key r) := fun r hr => by
    obtain ⟨m, _⟩ := mem_grp.mp hr
    obtain ⟨x, hx, e⟩ := mem_mapK.mp m
    rw [keys_itm] at hx
    obtain ⟨y, hy, rfl⟩ := List.mem_map.mp hx
    exact ⟨y, hy, e⟩
  refine ⟨?_, ?_, fun r hr => ?_, fun r hr => ?_, grp_srt _, Nat.le_trans (len_red S L.rows) h.len, ?_⟩
  · show 0 ≤ ((leftOf S L.c).length : Int) - 1
    rw [hc]; omega
  · show ((leftOf S L.c).length : Int) - 1 ≤ 10
    rw [hc]
    have := NN_le S L.c.toNat
    have := h.c1
    omega
  · obtain ⟨x, hx, e⟩ := mem r hr
    have g := h.good x hx
    unfold ph at e
    split at e
    · rename_i q
      have e1 := congrArg Prod.fst (Option.some.inj e)
      have e2 := congrArg Prod.snd (Option.some.inj e)
      have e1 : ((NN S x.1.toNat : Nat) : Int) = r.1 := e1
      have e2 : ((NN S (x.2.1 + 1).toNat : Nat) : Int) - 1 = r.2.1 := e2
      have q : NN S x.1.toNat < NN S (x.2.1 + 1).toNat := q
      have m := NN_mono S (show (x.2.1 + 1).toNat ≤ L.c.toNat + 1 by have := g.2.2; omega)
      have ll := left_len S h.c0
      refine ⟨by omega, by omega, ?_⟩
      show r.2.1 ≤ ((leftOf S L.c).length : Int) - 1
      omega
    · cases e
  · obtain ⟨m, e⟩ := mem_grp.mp hr
    rw [e]
    exact (wt_pos hv _).2 m
  · have t := tot_red S hk
    have := frd_nn S h.pos
    have := h.tot
    show Mx.tot (redRows S L.rows) ≤ _
    omega
theorem VS.one {c p : Int} (h0 : 0 ≤ p) (h1 : p < c) : VS c [p] := ⟨fun v hv => by simp at hv; rw [hv]; exact ⟨h0, h1⟩, by simp⟩
theorem NN_top {c p : Int} (h0 : 0 ≤ p) (h1 : p < c) : ((NN [p] c.toNat : Nat) : Int) = c - 1 := by
  obtain ⟨q, rfl⟩ : ∃ q : Nat, p = q := ⟨p.toNat, by omega⟩
  rw [NN_one, if_pos (by omega)]; omega
def dropAt (S : List Int) (m : Nat) (p : Int) : List Int := (S.eraseIdx m).map fun o => o - (if o > p then 1 else 0)
theorem mem_erase {S : List Int} (h : S.Pairwise fun a b => a < b) {m : Nat} {p : Int} (hm : S[m]? = some p) (x : Int) : x ∈ S.eraseIdx m ↔ x ∈ S ∧ x ≠ p := by
  induction S generalizing m with
  | nil => simp at hm
  | cons a r ih =>
    have h' := List.pairwise_cons.mp h
    cases m with
    | zero =>
      simp at hm
      subst hm
      rw [List.eraseIdx_cons_zero]
      constructor
      · intro hx; exact ⟨List.mem_cons_of_mem _ hx, fun e => by have := h'.1 x hx; omega⟩
      · intro ⟨hx, n⟩
        rcases List.mem_cons.mp hx with e | hx
        · exact absurd e n
        · exact hx
    | succ m =>
      rw [List.getElem?_cons_succ] at hm
      rw [List.eraseIdx_cons_succ, List.mem_cons, ih h'.2 hm, List.mem_cons]
      have hp := h'.1 p (List.mem_of_getElem? hm)
      constructor
      · rintro (e | ⟨e, n⟩)
        · exact ⟨.inl e, by omega⟩
        · exact ⟨.inr e, n⟩
      · rintro ⟨e | e, n⟩
        · exact .inl e
        · exact .inr ⟨e, n⟩
theorem dropAt_vs {c : Int} {S : List Int} (h : VS c S) {m : Nat} {p : Int} (hm : S[m]? = some p) : VS (c - 1) (dropAt S m p) := by
  have hp := h.mem p (List.mem_of_getElem? hm)
  refine ⟨fun v hv => ?_, ?_⟩
  · unfold dropAt at hv
    obtain ⟨o, ho, rfl⟩ := List.mem_map.mp hv
    obtain ⟨ho, n⟩ := (mem_erase h.srt hm o).mp ho
    have := h.mem o ho
    split <;> omega
  · unfold dropAt
    rw [List.pairwise_map]
    have s : (S.eraseIdx m).Pairwise fun a b => a < b := h.srt.sublist (List.eraseIdx_sublist ..)
    refine List.Pairwise.imp_of_mem (fun {a b} ha hb hab => ?_) s
    have na := ((mem_erase h.srt hm a).mp ha).2
    have nb := ((mem_erase h.srt hm b).mp hb).2
    split <;> split <;> omega
theorem dropAt_renum {c : Int} {S : List Int} (h : VS c S) {m : Nat} {p : Int} (hm : S[m]? = some p) : renum p S (dropAt S m p) := by
  have key : ∀ y : Int, y ∈ dropAt S m p ↔ ∃ o ∈ S, o ≠ p ∧ o - (if o > p then 1 else 0) = y := fun y => by
    unfold dropAt
    rw [List.mem_map]
    constructor
    · rintro ⟨o, ho, e⟩
      obtain ⟨ho, n⟩ := (mem_erase h.srt hm o).mp ho
      exact ⟨o, ho, n, e⟩
    · rintro ⟨o, ho, n, e⟩
      exact ⟨o, (mem_erase h.srt hm o).mpr ⟨ho, n⟩, e⟩
  refine ⟨fun y _ h1 => ?_, fun y h1 => ?_⟩
  · rw [key]
    constructor
    · rintro ⟨o, ho, n, e⟩
      split at e
      · omega
      · have : o = y := by omega
        rw [← this]; exact ho
    · intro hy; exact ⟨y, hy, by omega, by rw [if_neg (by omega)]; omega⟩
  · rw [key]
    constructor
    · rintro ⟨o, ho, n, e⟩
      split at e
      · have : o = y + 1 := by omega
        rw [← this]; exact ho
      · omega
    · intro hy; exact ⟨y + 1, hy, by omega, by rw [if_pos (by omega)]; omega⟩
/-- one deletion, then the others -/
theorem red_step {L : Lay} (h : WL L) {S : List Int} (hS : VS L.c S) {m : Nat} {p : Int} (hm : S[m]? = some p) :
    (red L [p]).c = L.c - 1 ∧ red (red L [p]) (dropAt S m p) = red L S ∧ frd [p] L.rows + frd (dropAt S m p) (red L [p]).rows = frd S L.rows := by
  have hp := hS.mem p (List.mem_of_getElem? hm)
  have hn := dropAt_renum hS hm
  have hk : ∀ r ∈ L.rows, 0 ≤ r.1 ∧ r.1 ≤ r.2.1 := fun r hr => ⟨(h.good r hr).1, (h.good r hr).2.1⟩
  have e1 : (red L [p]).c = L.c - 1 := by
    show ((leftOf [p] L.c).length : Int) - 1 = _
    rw [red_c h.c0 (VS.one hp.1 hp.2), NN_top hp.1 hp.2]
  have w1 := h.red (VS.one hp.1 hp.2)
  have e2 : redRows (dropAt S m p) (red L [p]).rows = redRows S L.rows := red_two hp.1 hn (List.mem_of_getElem? hm) L.rows
  refine ⟨e1, ?_, ?_⟩
  · have hd : VS (red L [p]).c (dropAt S m p) := by rw [e1]; exact dropAt_vs hS hm
    have ec : ((leftOf (dropAt S m p) (red L [p]).c).length : Int) - 1 = ((leftOf S L.c).length : Int) - 1 := by
      rw [red_c w1.c0 hd, red_c h.c0 hS, e1]
      obtain ⟨q, rfl⟩ : ∃ q : Nat, p = q := ⟨p.toNat, by omega⟩
      rw [← NN_renum hn (List.mem_of_getElem? hm) L.c.toNat, NN_one, if_pos (by omega)]
      congr 2; omega
    show Lay.mk _ _ = Lay.mk _ _
    rw [ec, e2]
  · have t1 := tot_red [p] hk
    have t2 := tot_red S hk
    have t3 := tot_red (dropAt S m p) (rows := (red L [p]).rows) fun r hr => ⟨(w1.good r hr).1, (w1.good r hr).2.1⟩
    rw [e2] at t3
    have : Mx.tot (red L [p]).rows = Mx.tot (redRows [p] L.rows) := rfl
    omega
theorem red_none {L : Lay} (h : WL L) : red L [] = L := by
  have : VS L.c [] := ⟨(fun _ h => by cases h), List.Pairwise.nil⟩
  have e := red_c h.c0 this
  unfold red
  rw [e, NN_nil, red_nil h.srt fun r hr => ⟨(h.good r hr).1, (h.good r hr).2.1⟩]
  have := h.c0
  show Lay.mk _ _ = L
  have e2 : ((L.c.toNat : Nat) : Int) = L.c := by omega
  rw [e2]
theorem frd_none {L : Lay} (h : WL L) : frd [] L.rows = 0 := by
  have hk : ∀ r ∈ L.rows, 0 ≤ r.1 ∧ r.1 ≤ r.2.1 := fun r hr => ⟨(h.good r hr).1, (h.good r hr).2.1⟩
  have t := tot_red [] hk
  rw [red_nil h.srt hk] at t
  omega
end Mx

namespace Tx
open PySem PySem.Spec Sn
def a_is_integer : Fd := ⟨3, 3, false, (.seq (.ret (.and (.cons (.bi .isInt (.cons (.var 0) .nil)) (.cons (.not (.bi .isBool (.cons (.var 0) .nil))) (.cons (.cmp (.var 1) (.more .le (.var 0) (.one .le (.var 2)))) .nil)))))
    .skip)⟩
def a_is_ascending : Fd := ⟨1, 3, false, (.seq (.ret (.bi .all (.cons (.lc (.cmp (.var 1) (.one .lt (.var 2))) (.tp (.cs (.nm 1) (.cs (.nm 2) .nl))) (.zip (.var 0) (.slc (.var 0) (.lit (.int 1)) (.lit .none))) (.lit (.bool true)) [1, 2]) .nil)))
    .skip)⟩
def a_is_row : Fd := ⟨2, 2, false, (.seq (.ite (.or (.cons (.not (.bi .isTup (.cons (.var 1) .nil))) (.cons (.cmp (.bi .len (.cons (.var 1) .nil)) (.one .ne (.lit (.int 3)))) (.cons (.not (.call 0 (.cons (.ix (.var 1) (.lit (.int 2))) (.cons (.lit (.int 1)) (.cons (.lit (.int 1000000000000000)) .nil))))) .nil)))) (.seq (.ret (.lit (.bool false)))
    .skip) .skip)
    (.seq (.ret (.and (.cons (.call 0 (.cons (.ix (.var 1) (.lit (.int 1))) (.cons (.lit (.int 0)) (.cons (.var 0) .nil)))) (.cons (.call 0 (.cons (.ix (.var 1) (.lit (.int 0))) (.cons (.lit (.int 0)) (.cons (.ix (.var 1) (.lit (.int 1))) .nil)))) .nil))))
    .skip))⟩
def a_is_layout : Fd := ⟨1, 2, false, (.seq (.ite (.or (.cons (.not (.bi .isTup (.cons (.var 0) .nil))) (.cons (.cmp (.bi .len (.cons (.var 0) .nil)) (.one .ne (.lit (.int 2)))) (.cons (.not (.call 0 (.cons (.ix (.var 0) (.lit (.int 0))) (.cons (.lit (.int 0)) (.cons (.lit (.int 10)) .nil))))) .nil)))) (.seq (.ret (.lit (.bool false)))
    .skip) .skip)
    (.seq (.ite (.or (.cons (.not (.bi .isTup (.cons (.ix (.var 0) (.lit (.int 1))) .nil))) (.cons (.not (.bi .all (.cons (.lc (.call 2 (.cons (.ix (.var 0) (.lit (.int 0))) (.cons (.var 1) .nil))) (.nm 1) (.seq (.ix (.var 0) (.lit (.int 1)))) (.lit (.bool true)) [1]) .nil))) .nil))) (.seq (.ret (.lit (.bool false)))
    .skip) .skip)
    (.seq (.ret (.call 1 (.cons (.lc (.slc (.var 1) (.lit .none) (.lit (.int 2))) (.nm 1) (.seq (.ix (.var 0) (.lit (.int 1)))) (.lit (.bool true)) [1]) .nil)))
    .skip)))⟩
def a_require_layout : Fd := ⟨1, 1, false, (.seq (.ite (.not (.call 3 (.cons (.var 0) .nil))) (.seq (.raise "InvalidLayout")
    .skip) .skip)
    .skip)⟩
def a_require_set : Fd := ⟨2, 3, false, (.seq (.ite (.or (.cons (.not (.bi .isTup (.cons (.var 1) .nil))) (.cons (.not (.bi .all (.cons (.lc (.call 0 (.cons (.var 2) (.cons (.lit (.int 0)) (.cons (.bin .sub (.var 0) (.lit (.int 1))) .nil)))) (.nm 2) (.seq (.var 1)) (.lit (.bool true)) [2]) .nil))) .nil))) (.seq (.raise "InvalidSet")
    .skip) .skip)
    (.seq (.ite (.not (.call 1 (.cons (.var 1) .nil))) (.seq (.raise "InvalidSet")
    .skip) .skip)
    .skip))⟩
def a_total_space : Fd := ⟨1, 4, false, (.seq (.ex (.call 4 (.cons (.var 0) .nil)))
    (.seq (.ret (.bi .sum (.cons (.lc (.var 3) (.tp (.cs (.nm 1) (.cs (.nm 2) (.cs (.nm 3) .nl)))) (.seq (.ix (.var 0) (.lit (.int 1)))) (.lit (.bool true)) [1, 2, 3]) .nil)))
    .skip))⟩
def a_freed_by : Fd := ⟨2, 7, false, (.seq (.set 2 (.lit (.int 0)))
    (.seq (.for_ (.tp (.cs (.nm 3) (.cs (.nm 4) (.cs (.nm 5) .nl)))) (.seq (.ix (.var 0) (.lit (.int 1)))) (.seq (.ite (.bi .all (.cons (.lc (.cmp (.var 6) (.one .inn (.var 1))) (.nm 6) (.rng (.var 3) (.bin .add (.var 4) (.lit (.int 1)))) (.lit (.bool true)) [6]) .nil)) (.seq (.set 2 (.bin .add (.var 2) (.var 5)))
    .skip) .skip)
    .skip))
    (.seq (.ret (.var 2))
    .skip)))⟩
def a_freed : Fd := ⟨2, 2, false, (.seq (.ex (.call 4 (.cons (.var 0) .nil)))
    (.seq (.ex (.call 5 (.cons (.ix (.var 0) (.lit (.int 0))) (.cons (.var 1) .nil))))
    (.seq (.ret (.call 7 (.cons (.var 0) (.cons (.var 1) .nil))))
    .skip)))⟩
def a_reduced : Fd := ⟨2, 13, false, (.seq (.setT (.tp (.cs (.nm 2) (.cs (.nm 3) .nl))) (.var 0))
    (.seq (.par [4, 5] (.cons (.lc (.var 11) (.nm 11) (.rng (.lit (.int 0)) (.bin .add (.var 2) (.lit (.int 1)))) (.cmp (.var 11) (.one .notIn (.var 1))) [11]) (.cons (.dnew true) .nil)))
    (.seq (.for_ (.tp (.cs (.nm 6) (.cs (.nm 7) (.cs (.nm 8) .nl)))) (.seq (.var 3)) (.seq (.set 9 (.lc (.var 12) (.tp (.cs (.nm 12) (.cs (.nm 11) .nl))) (.enum (.var 4)) (.cmp (.var 6) (.more .le (.var 11) (.one .le (.var 7)))) [12, 11]))
    (.seq (.ite (.cmp (.var 9) (.one .ne (.lst .nil))) (.seq (.set 10 (.tup (.cons (.ix (.var 9) (.lit (.int 0))) (.cons (.ix (.var 9) (.neg (.lit (.int 1)))) .nil))))
    (.seq (.put 5 (.var 10) (.bin .add (.get2 (.var 5) (.var 10) (.lit (.int 0))) (.var 8)))
    .skip)) .skip)
    .skip)))
    (.seq (.ret (.tup (.cons (.bin .sub (.bi .len (.cons (.var 4) .nil)) (.lit (.int 1))) (.cons (.bi .tuple (.cons (.lc (.bin .add (.var 10) (.tup (.cons (.ix (.var 5) (.var 10)) .nil))) (.nm 10) (.seq (.bi .sorted (.cons (.var 5) .nil))) (.lit (.bool true)) [10]) .nil)) .nil))))
    .skip))))⟩
def a_layout_after : Fd := ⟨2, 2, false, (.seq (.ex (.call 4 (.cons (.var 0) .nil)))
    (.seq (.ex (.call 5 (.cons (.ix (.var 0) (.lit (.int 0))) (.cons (.var 1) .nil))))
    (.seq (.ret (.call 9 (.cons (.var 0) (.cons (.var 1) .nil))))
    .skip)))⟩
def a_all_sets : Fd := ⟨1, 6, false, (.seq (.set 1 (.lst (.cons (.tup .nil) .nil)))
    (.seq (.for_ (.nm 2) (.seq (.var 0)) (.seq (.set 1 (.bin .add (.var 1) (.lc (.bin .add (.var 4) (.tup (.cons (.var 2) .nil))) (.nm 4) (.seq (.var 1)) (.lit (.bool true)) [4])))
    .skip))
    (.seq (.set 3 (.bi .sorted (.cons (.lc (.tup (.cons (.bi .len (.cons (.var 4) .nil)) (.cons (.var 4) .nil))) (.nm 4) (.seq (.var 1)) (.lit (.bool true)) [4]) .nil)))
    (.seq (.ret (.lc (.var 4) (.tp (.cs (.nm 5) (.cs (.nm 4) .nl))) (.seq (.var 3)) (.lit (.bool true)) [5, 4]))
    .skip))))⟩
def a_free_sets : Fd := ⟨2, 3, false, (.seq (.ret (.call 13 (.cons (.lc (.var 2) (.nm 2) (.rng (.lit (.int 0)) (.var 0)) (.cmp (.var 2) (.one .notIn (.var 1))) [2]) .nil)))
    .skip)⟩
def a_best_of_each : Fd := ⟨2, 5, false, (.seq (.set 2 (.lst .nil))
    (.seq (.for_ (.nm 3) (.seq (.call 14 (.cons (.ix (.var 0) (.lit (.int 0))) (.cons (.var 1) .nil)))) (.seq (.set 4 (.call 7 (.cons (.var 0) (.cons (.var 3) .nil))))
    (.seq (.ite (.cmp (.bi .len (.cons (.var 3) .nil)) (.one .eq (.bi .len (.cons (.var 2) .nil)))) (.seq (.ex (.app 2 (.tup (.cons (.var 4) (.cons (.var 3) .nil)))))
    .skip) (.seq (.ite (.cmp (.var 4) (.one .gt (.ix (.ix (.var 2) (.neg (.lit (.int 1)))) (.lit (.int 0))))) (.seq (.put 2 (.neg (.lit (.int 1))) (.tup (.cons (.var 4) (.cons (.var 3) .nil))))
    .skip) .skip)
    .skip))
    .skip)))
    (.seq (.ret (.var 2))
    .skip)))⟩
def a_unique_sizes : Fd := ⟨1, 2, false, (.seq (.ex (.call 4 (.cons (.var 0) .nil)))
    (.seq (.ret (.lc (.call 7 (.cons (.var 0) (.cons (.tup (.cons (.var 1) .nil)) .nil))) (.nm 1) (.rng (.lit (.int 0)) (.ix (.var 0) (.lit (.int 0)))) (.lit (.bool true)) [1]))
    .skip))⟩
def a_is_pair : Fd := ⟨1, 2, false, (.seq (.ret (.and (.cons (.bi .isTup (.cons (.var 0) .nil)) (.cons (.cmp (.bi .len (.cons (.var 0) .nil)) (.one .eq (.lit (.int 2)))) (.cons (.bi .all (.cons (.lc (.call 0 (.cons (.var 1) (.cons (.lit (.int 0)) (.cons (.lit (.int 1000000000000000)) .nil)))) (.nm 1) (.seq (.var 0)) (.lit (.bool true)) [1]) .nil)) .nil)))))
    .skip)⟩
def a_is_report : Fd := ⟨1, 4, false, (.seq (.ite (.or (.cons (.not (.bi .isTup (.cons (.var 0) .nil))) (.cons (.not (.cmp (.lit (.int 1)) (.more .le (.bi .len (.cons (.var 0) .nil)) (.one .le (.bin .add (.lit (.int 10)) (.lit (.int 1))))))) .nil))) (.seq (.ret (.lit (.bool false)))
    .skip) .skip)
    (.seq (.ite (.or (.cons (.not (.bi .all (.cons (.lc (.call 22 (.cons (.var 3) .nil)) (.nm 3) (.seq (.var 0)) (.lit (.bool true)) [3]) .nil))) (.cons (.cmp (.ix (.ix (.var 0) (.lit (.int 0))) (.lit (.int 0))) (.one .ne (.ix (.ix (.var 0) (.lit (.int 0))) (.lit (.int 1))))) .nil))) (.seq (.ret (.lit (.bool false)))
    .skip) .skip)
    (.seq (.ret (.bi .all (.cons (.lc (.cmp (.lit (.int 0)) (.more .le (.bin .sub (.ix (.var 2) (.lit (.int 0))) (.ix (.var 2) (.lit (.int 1)))) (.one .le (.ix (.var 1) (.lit (.int 0)))))) (.tp (.cs (.nm 1) (.cs (.nm 2) .nl))) (.zip (.var 0) (.slc (.var 0) (.lit (.int 1)) (.lit .none))) (.lit (.bool true)) [1, 2]) .nil)))
    .skip)))⟩
def a_require_report : Fd := ⟨1, 1, false, (.seq (.ite (.not (.call 23 (.cons (.var 0) .nil))) (.seq (.raise "InvalidReport")
    .skip) .skip)
    .skip)⟩
def a_report_of : Fd := ⟨1, 5, false, (.seq (.ex (.call 4 (.cons (.var 0) .nil)))
    (.seq (.set 1 (.lst .nil))
    (.seq (.for_ (.nm 2) (.rng (.lit (.int 0)) (.bin .add (.ix (.var 0) (.lit (.int 0))) (.lit (.int 1)))) (.seq (.set 3 (.lc (.var 4) (.nm 4) (.seq (.ix (.var 0) (.lit (.int 1)))) (.cmp (.ix (.var 4) (.lit (.int 0))) (.more .le (.var 2) (.one .le (.ix (.var 4) (.lit (.int 1)))))) [4]))
    (.seq (.ex (.app 1 (.tup (.cons (.bi .sum (.cons (.lc (.ix (.var 4) (.lit (.int 2))) (.nm 4) (.seq (.var 3)) (.lit (.bool true)) [4]) .nil)) (.cons (.bi .sum (.cons (.lc (.ix (.var 4) (.lit (.int 2))) (.nm 4) (.seq (.var 3)) (.cmp (.ix (.var 4) (.lit (.int 0))) (.one .eq (.var 2))) [4]) .nil)) .nil)))))
    .skip)))
    (.seq (.ret (.bi .tuple (.cons (.var 1) .nil)))
    .skip))))⟩
def a_crossing : Fd := ⟨1, 3, false, (.seq (.ret (.bin .add (.lc (.bin .sub (.var 1) (.var 2)) (.tp (.cs (.nm 1) (.cs (.nm 2) .nl))) (.seq (.slc (.var 0) (.lit (.int 1)) (.lit .none))) (.lit (.bool true)) [1, 2]) (.lst (.cons (.lit (.int 0)) .nil))))
    .skip)⟩
def a_entering : Fd := ⟨2, 2, false, (.seq (.ret (.bin .sub (.ix (.ix (.var 0) (.var 1)) (.lit (.int 0))) (.ix (.ix (.var 0) (.var 1)) (.lit (.int 1)))))
    .skip)⟩
def a_require_run : Fd := ⟨3, 3, false, (.seq (.ite (.or (.cons (.not (.call 0 (.cons (.var 2) (.cons (.lit (.int 0)) (.cons (.bin .sub (.bi .len (.cons (.var 0) .nil)) (.lit (.int 2))) .nil))))) (.cons (.not (.call 0 (.cons (.var 1) (.cons (.lit (.int 0)) (.cons (.var 2) .nil))))) .nil))) (.seq (.raise "InvalidPosition")
    .skip) .skip)
    .skip)⟩
def a_inside : Fd := ⟨3, 5, false, (.seq (.ret (.bin .sub (.bi .sum (.cons (.lc (.var 4) (.tp (.cs (.nm 3) (.cs (.nm 4) .nl))) (.seq (.slc (.var 0) (.var 1) (.bin .add (.var 2) (.lit (.int 1))))) (.lit (.bool true)) [3, 4]) .nil)) (.ix (.call 26 (.cons (.var 0) .nil)) (.var 2))))
    .skip)⟩
def a_passing_range : Fd := ⟨3, 7, false, (.seq (.par [4, 5] (.cons (.call 26 (.cons (.var 0) .nil)) (.cons (.call 27 (.cons (.var 0) (.cons (.var 1) .nil))) .nil)))
    (.seq (.set 3 (.bi .sum (.cons (.lc (.bin .sub (.ix (.ix (.var 0) (.var 6)) (.lit (.int 0))) (.ix (.var 4) (.var 6))) (.nm 6) (.rng (.var 1) (.bin .add (.var 2) (.lit (.int 1)))) (.lit (.bool true)) [6]) .nil)))
    (.seq (.ret (.tup (.cons (.bi .max2 (.cons (.lit (.int 0)) (.cons (.bin .sub (.var 5) (.var 3)) .nil))) (.cons (.bi .min1 (.cons (.bin .add (.lst (.cons (.var 5) .nil)) (.slc (.var 4) (.var 1) (.bin .add (.var 2) (.lit (.int 1))))) .nil)) .nil))))
    .skip)))⟩
def a_freed_range : Fd := ⟨3, 5, false, (.seq (.ex (.call 24 (.cons (.var 0) .nil)))
    (.seq (.ex (.call 28 (.cons (.var 0) (.cons (.var 1) (.cons (.var 2) .nil)))))
    (.seq (.setT (.tp (.cs (.nm 3) (.cs (.nm 4) .nl))) (.call 30 (.cons (.var 0) (.cons (.var 1) (.cons (.var 2) .nil)))))
    (.seq (.ret (.tup (.cons (.bin .add (.call 29 (.cons (.var 0) (.cons (.var 1) (.cons (.var 2) .nil)))) (.var 3)) (.cons (.bin .add (.call 29 (.cons (.var 0) (.cons (.var 1) (.cons (.var 2) .nil)))) (.var 4)) .nil))))
    .skip))))⟩
def a__law_source : Fd := ⟨2, 5, false, (.seq (.set 2 (.lit (.int 0)))
    (.seq (.ite (.cmp (.var 1) (.one .lt (.bi .len (.cons (.var 0) .nil)))) (.seq (.set 2 (.ix (.var 0) (.var 1)))
    .skip) .skip)
    (.seq (.set 3 (.lst (.cons (.lit (.int 2147483647)) (.cons (.lit (.int 2147483629)) (.cons (.lit (.int 2147483587)) (.cons (.lit (.int 2147483579)) (.cons (.lit (.int 2147483563)) (.cons (.lit (.int 2147483549)) (.cons (.lit (.int 2147483543)) (.cons (.lit (.int 2147483497)) .nil))))))))))
    (.seq (.set 4 (.bin .mod (.bin .mul (.bin .add (.bin .mod (.var 2) (.lit (.int 2147483489))) (.lit (.int 1))) (.bin .add (.lit (.int 48271)) (.bin .mul (.lit (.int 2)) (.var 1)))) (.lit (.int 2147483489))))
    (.seq (.set 4 (.bin .add (.bin .add (.bin .mod (.bin .mul (.var 4) (.var 4)) (.lit (.int 2147483477))) (.var 1)) (.lit (.int 1))))
    (.seq (.ite (.cmp (.var 2) (.one .ge (.bin .pow (.lit (.int 10)) (.lit (.int 18))))) (.seq (.ret (.lst (.cons (.var 2) (.cons (.var 4) (.cons (.ix (.var 3) (.bin .mod (.var 1) (.lit (.int 8)))) .nil)))))
    .skip) .skip)
    (.seq (.ret (.lst (.cons (.lit (.int 0)) (.cons (.var 4) (.cons (.ix (.var 3) (.bin .mod (.var 1) (.lit (.int 8)))) .nil)))))
    .skip)))))))⟩
def a__law_pick : Fd := ⟨2, 3, true, (.seq (.ite (.cmp (.ix (.var 0) (.lit (.int 0))) (.one .gt (.lit (.int 0)))) (.seq (.set 2 (.bin .mod (.ix (.var 0) (.lit (.int 0))) (.var 1)))
    (.seq (.put 0 (.lit (.int 0)) (.bin .fdiv (.ix (.var 0) (.lit (.int 0))) (.var 1)))
    (.seq (.ret (.var 2))
    .skip))) .skip)
    (.seq (.put 0 (.lit (.int 1)) (.bin .add (.bin .mod (.bin .mul (.ix (.var 0) (.lit (.int 1))) (.lit (.int 48271))) (.ix (.var 0) (.lit (.int 2)))) (.lit (.int 1))))
    (.seq (.ret (.bin .mod (.bin .fdiv (.bin .mod (.bin .mul (.ix (.var 0) (.lit (.int 1))) (.ix (.var 0) (.lit (.int 1)))) (.lit (.int 2147483423))) (.lit (.int 7))) (.var 1)))
    .skip)))⟩
def a__law_layout : Fd := ⟨2, 9, true, (.seq (.par [4, 5] (.cons (.callIO 39 0 (.cons (.bin .add (.var 1) (.lit (.int 1))) .nil)) (.cons (.dnew true) .nil)))
    (.seq (.set 2 (.ix (.lst (.cons (.lit (.int 3)) (.cons (.lit (.int 12)) (.cons (.bin .pow (.lit (.int 10)) (.lit (.int 6))) (.cons (.bin .pow (.lit (.int 10)) (.lit (.int 9))) .nil))))) (.callIO 39 0 (.cons (.lit (.int 4)) .nil))))
    (.seq (.for_ (.nm 3) (.rng (.lit (.int 0)) (.callIO 39 0 (.cons (.bin .add (.bin .mul (.lit (.int 4)) (.var 4)) (.lit (.int 3))) .nil))) (.seq (.set 6 (.callIO 39 0 (.cons (.bin .add (.var 4) (.lit (.int 1))) .nil)))
    (.seq (.set 7 (.ix (.lst (.cons (.var 6) (.cons (.var 4) (.cons (.bin .add (.var 6) (.callIO 39 0 (.cons (.bin .sub (.bin .add (.var 4) (.lit (.int 1))) (.var 6)) .nil))) .nil)))) (.callIO 39 0 (.cons (.lit (.int 3)) .nil))))
    (.seq (.put 5 (.tup (.cons (.var 6) (.cons (.var 7) .nil))) (.bin .add (.lit (.int 1)) (.callIO 39 0 (.cons (.var 2) .nil))))
    .skip))))
    (.seq (.ret (.tup (.cons (.var 4) (.cons (.bi .tuple (.cons (.lc (.bin .add (.var 8) (.tup (.cons (.ix (.var 5) (.var 8)) .nil))) (.nm 8) (.seq (.bi .sorted (.cons (.var 5) .nil))) (.lit (.bool true)) [8]) .nil)) .nil))))
    .skip))))⟩
def a__law_report : Fd := ⟨1, 5, false, (.seq (.set 1 (.lst .nil))
    (.seq (.for_ (.nm 2) (.rng (.lit (.int 0)) (.bin .add (.ix (.var 0) (.lit (.int 0))) (.lit (.int 1)))) (.seq (.set 3 (.lc (.var 4) (.nm 4) (.seq (.ix (.var 0) (.lit (.int 1)))) (.and (.cons (.cmp (.ix (.var 4) (.lit (.int 0))) (.one .le (.var 2))) (.cons (.cmp (.var 2) (.one .le (.ix (.var 4) (.lit (.int 1))))) .nil))) [4]))
    (.seq (.ex (.app 1 (.tup (.cons (.bi .sum (.cons (.lc (.ix (.var 4) (.lit (.int 2))) (.nm 4) (.seq (.var 3)) (.lit (.bool true)) [4]) .nil)) (.cons (.bi .sum (.cons (.lc (.ix (.var 4) (.lit (.int 2))) (.nm 4) (.seq (.var 3)) (.cmp (.ix (.var 4) (.lit (.int 0))) (.one .eq (.var 2))) [4]) .nil)) .nil)))))
    .skip)))
    (.seq (.ret (.bi .tuple (.cons (.var 1) .nil)))
    .skip)))⟩
def a__law_freed : Fd := ⟨2, 7, false, (.seq (.set 2 (.lit (.int 0)))
    (.seq (.for_ (.tp (.cs (.nm 3) (.cs (.nm 4) (.cs (.nm 5) .nl)))) (.seq (.ix (.var 0) (.lit (.int 1)))) (.seq (.ite (.cmp (.lc (.var 6) (.nm 6) (.rng (.var 3) (.bin .add (.var 4) (.lit (.int 1)))) (.cmp (.var 6) (.one .notIn (.var 1))) [6]) (.one .eq (.lst .nil))) (.seq (.set 2 (.bin .add (.var 2) (.var 5)))
    .skip) .skip)
    .skip))
    (.seq (.ret (.var 2))
    .skip)))⟩
def a__law_merged : Fd := ⟨2, 7, false, (.seq (.set 2 (.dnew true))
    (.seq (.for_ (.tp (.cs (.nm 3) (.cs (.nm 4) (.cs (.nm 5) .nl)))) (.seq (.var 1)) (.seq (.put 2 (.tup (.cons (.var 3) (.cons (.var 4) .nil))) (.bin .add (.get2 (.var 2) (.tup (.cons (.var 3) (.cons (.var 4) .nil))) (.lit (.int 0))) (.var 5)))
    .skip))
    (.seq (.ret (.tup (.cons (.var 0) (.cons (.bi .tuple (.cons (.lc (.bin .add (.var 6) (.tup (.cons (.ix (.var 2) (.var 6)) .nil))) (.nm 6) (.seq (.bi .sorted (.cons (.var 2) .nil))) (.cmp (.ix (.var 2) (.var 6)) (.one .gt (.lit (.int 0)))) [6]) .nil)) .nil))))
    .skip)))⟩
def a__law_after : Fd := ⟨2, 9, false, (.seq (.par [2, 3] (.cons (.lc (.var 8) (.nm 8) (.rng (.lit (.int 0)) (.bin .add (.ix (.var 0) (.lit (.int 0))) (.lit (.int 1)))) (.cmp (.var 8) (.one .notIn (.var 1))) [8]) (.cons (.lst .nil) .nil)))
    (.seq (.for_ (.tp (.cs (.nm 4) (.cs (.nm 5) (.cs (.nm 6) .nl)))) (.seq (.ix (.var 0) (.lit (.int 1)))) (.seq (.set 7 (.lc (.index (.var 2) (.var 8)) (.nm 8) (.seq (.var 2)) (.and (.cons (.cmp (.var 4) (.one .le (.var 8))) (.cons (.cmp (.var 8) (.one .le (.var 5))) .nil))) [8]))
    (.seq (.ite (.cmp (.var 7) (.one .ne (.lst .nil))) (.seq (.ex (.app 3 (.tup (.cons (.bi .min1 (.cons (.var 7) .nil)) (.cons (.bi .max1 (.cons (.var 7) .nil)) (.cons (.var 6) .nil))))))
    .skip) .skip)
    .skip)))
    (.seq (.ret (.call 53 (.cons (.bin .sub (.bi .len (.cons (.var 2) .nil)) (.lit (.int 1))) (.cons (.var 3) .nil))))
    .skip)))⟩
def a__law_set : Fd := ⟨2, 4, true, (.seq (.set 2 (.bin .add (.lit (.int 1)) (.callIO 39 0 (.cons (.lit (.int 3)) .nil))))
    (.seq (.ret (.bi .tuple (.cons (.lc (.var 3) (.nm 3) (.rng (.lit (.int 0)) (.var 1)) (.cmp (.callIO 39 0 (.cons (.bin .add (.var 2) (.lit (.int 1))) .nil)) (.one .gt (.lit (.int 0)))) [3]) .nil)))
    .skip))⟩
def a__law_outcome_k02 : Fd := ⟨2, 3, false, (.seq (.try_ (.seq (.ex (.call 8 (.cons (.var 0) (.cons (.var 1) .nil))))
    (.seq (.ex (.call 10 (.cons (.var 0) (.cons (.var 1) .nil))))
    .skip)) "SpaceError" 2)
    (.seq (.ret (.lit (.str "fine")))
    .skip))⟩
def a_law_k02 : Fd := ⟨1, 15, false, (.seq (.for_ (.nm 1) (.rng (.lit (.int 0)) (.bi .max2 (.cons (.lit (.int 6)) (.cons (.bi .min2 (.cons (.lit (.int 40)) (.cons (.bi .len (.cons (.var 0) .nil)) .nil))) .nil)))) (.seq (.set 2 (.call 38 (.cons (.var 0) (.cons (.var 1) .nil))))
    (.seq (.set 3 (.callIO 45 2 (.cons (.lit (.int 10)) .nil)))
    (.seq (.set 4 (.ix (.var 3) (.lit (.int 0))))
    (.seq (.ite (.cmp (.call 6 (.cons (.var 3) .nil)) (.one .ne (.bi .sum (.cons (.lc (.ix (.var 14) (.lit (.int 2))) (.nm 14) (.seq (.ix (.var 3) (.lit (.int 1)))) (.lit (.bool true)) [14]) .nil)))) (.seq (.ret (.lit (.bool false)))
    .skip) .skip)
    (.seq (.set 5 (.callIO 39 2 (.cons (.bin .add (.var 4) (.lit (.int 1))) .nil)))
    (.seq (.set 6 (.lst (.cons (.tup .nil) (.cons (.tupRg (.lit (.int 0)) (.var 4)) (.cons (.tupRg (.var 5) (.bin .add (.var 5) (.callIO 39 2 (.cons (.bin .sub (.bin .add (.var 4) (.lit (.int 1))) (.var 5)) .nil)))) .nil)))))
    (.seq (.for_ (.nm 7) (.seq (.bin .add (.var 6) (.lc (.callIO 55 2 (.cons (.var 4) .nil)) (.nm 13) (.rng (.lit (.int 0)) (.lit (.int 4))) (.lit (.bool true)) [13]))) (.seq (.ite (.cmp (.call 8 (.cons (.var 3) (.cons (.var 7) .nil))) (.one .ne (.call 52 (.cons (.var 3) (.cons (.var 7) .nil))))) (.seq (.ret (.lit (.bool false)))
    .skip) .skip)
    (.seq (.set 11 (.call 10 (.cons (.var 3) (.cons (.var 7) .nil))))
    (.seq (.ite (.cmp (.var 11) (.one .ne (.call 54 (.cons (.var 3) (.cons (.var 7) .nil))))) (.seq (.ret (.lit (.bool false)))
    .skip) .skip)
    (.seq (.ite (.cmp (.bin .add (.bi .sum (.cons (.lc (.ix (.var 14) (.lit (.int 2))) (.nm 14) (.seq (.ix (.var 11) (.lit (.int 1)))) (.lit (.bool true)) [14]) .nil)) (.call 8 (.cons (.var 3) (.cons (.var 7) .nil)))) (.one .ne (.call 6 (.cons (.var 3) .nil)))) (.seq (.ret (.lit (.bool false)))
    .skip) .skip)
    .skip)))))
    (.seq (.set 8 (.lc (.call 52 (.cons (.var 3) (.cons (.tup (.cons (.var 12) .nil)) .nil))) (.nm 12) (.rng (.lit (.int 0)) (.var 4)) (.lit (.bool true)) [12]))
    (.seq (.set 9 (.call 18 (.cons (.var 3) .nil)))
    (.seq (.ite (.cmp (.var 9) (.one .ne (.var 8))) (.seq (.ret (.lit (.bool false)))
    .skip) .skip)
    (.seq (.ex (.app 9 (.lit .none)))
    (.seq (.ite (.cmp (.call 18 (.cons (.var 3) .nil)) (.one .ne (.var 8))) (.seq (.ret (.lit (.bool false)))
    .skip) .skip)
    (.seq (.for_ (.nm 10) (.seq (.lst (.cons (.lit .none) (.cons (.lst .nil) (.cons (.tup (.cons (.var 4) .nil)) (.cons (.tup (.cons (.neg (.lit (.int 1))) .nil)) (.cons (.tup (.cons (.lit (.int 0)) (.cons (.lit (.int 0)) .nil))) (.cons (.tup (.cons (.lit (.bool true)) .nil)) (.cons (.tup (.cons (.lit (.str "0")) .nil)) (.cons (.tup (.cons (.lit (.int 1)) (.cons (.lit (.int 0)) .nil))) (.cons (.lit (.int 0)) .nil))))))))))) (.seq (.ite (.cmp (.call 56 (.cons (.var 3) (.cons (.var 10) .nil))) (.one .ne (.lit (.str "set")))) (.seq (.ret (.lit (.bool false)))
    .skip) .skip)
    .skip))
    .skip))))))))))))))
    (.seq (.ret (.cmp (.call 10 (.cons (.tup (.cons (.lit (.int 3)) (.cons (.tup (.cons (.tup (.cons (.lit (.int 0)) (.cons (.lit (.int 1)) (.cons (.lit (.int 10)) .nil)))) (.cons (.tup (.cons (.lit (.int 2)) (.cons (.lit (.int 2)) (.cons (.lit (.int 5)) .nil)))) (.cons (.tup (.cons (.lit (.int 3)) (.cons (.lit (.int 3)) (.cons (.lit (.int 2)) .nil)))) .nil)))) .nil))) (.cons (.tup (.cons (.lit (.int 1)) .nil)) .nil))) (.one .eq (.tup (.cons (.lit (.int 2)) (.cons (.tup (.cons (.tup (.cons (.lit (.int 0)) (.cons (.lit (.int 0)) (.cons (.lit (.int 10)) .nil)))) (.cons (.tup (.cons (.lit (.int 1)) (.cons (.lit (.int 1)) (.cons (.lit (.int 5)) .nil)))) (.cons (.tup (.cons (.lit (.int 2)) (.cons (.lit (.int 2)) (.cons (.lit (.int 2)) .nil)))) .nil)))) .nil))))))
    .skip))⟩
def a__law_subsets : Fd := ⟨1, 6, false, (.seq (.set 1 (.lst (.cons (.tup .nil) .nil)))
    (.seq (.for_ (.nm 2) (.seq (.var 0)) (.seq (.set 1 (.bin .add (.var 1) (.lc (.bin .add (.var 4) (.tup (.cons (.var 2) .nil))) (.nm 4) (.seq (.var 1)) (.lit (.bool true)) [4])))
    .skip))
    (.seq (.set 3 (.bi .sorted (.cons (.lc (.tup (.cons (.bi .len (.cons (.var 4) .nil)) (.cons (.var 4) .nil))) (.nm 4) (.seq (.var 1)) (.lit (.bool true)) [4]) .nil)))
    (.seq (.ret (.lc (.var 4) (.tp (.cs (.nm 5) (.cs (.nm 4) .nl))) (.seq (.var 3)) (.lit (.bool true)) [5, 4]))
    .skip))))⟩
def a__law_runs : Fd := ⟨1, 3, false, (.seq (.set 1 (.lst .nil))
    (.seq (.for_ (.nm 2) (.seq (.var 0)) (.seq (.ite (.and (.cons (.cmp (.var 1) (.one .ne (.lst .nil))) (.cons (.cmp (.ix (.ix (.var 1) (.neg (.lit (.int 1)))) (.lit (.int 1))) (.one .eq (.bin .sub (.var 2) (.lit (.int 1))))) .nil))) (.seq (.put 1 (.neg (.lit (.int 1))) (.tup (.cons (.ix (.ix (.var 1) (.neg (.lit (.int 1)))) (.lit (.int 0))) (.cons (.var 2) .nil))))
    .skip) (.seq (.ex (.app 1 (.tup (.cons (.var 2) (.cons (.var 2) .nil)))))
    .skip))
    .skip))
    (.seq (.ret (.var 1))
    .skip)))⟩
def a__law_one_by_one : Fd := ⟨3, 7, true, (.seq (.par [3, 4] (.cons (.bi .list (.cons (.var 2) .nil)) (.cons (.lit (.int 0)) .nil)))
    (.seq (.whl (.cmp (.var 3) (.one .ne (.lst .nil))) (.seq (.set 5 (.pop 3 (.callIO 39 0 (.cons (.bi .len (.cons (.var 3) .nil)) .nil))))
    (.seq (.set 4 (.bin .add (.var 4) (.call 8 (.cons (.var 1) (.cons (.tup (.cons (.var 5) .nil)) .nil)))))
    (.seq (.set 1 (.call 10 (.cons (.var 1) (.cons (.tup (.cons (.var 5) .nil)) .nil))))
    (.seq (.set 3 (.lc (.bin .sub (.var 6) (.bi .int (.cons (.cmp (.var 6) (.one .gt (.var 5))) .nil))) (.nm 6) (.seq (.var 3)) (.lit (.bool true)) [6]))
    .skip)))))
    (.seq (.ret (.tup (.cons (.var 4) (.cons (.var 1) .nil))))
    .skip)))⟩
def a_law_k03 : Fd := ⟨1, 15, false, (.seq (.for_ (.nm 1) (.rng (.lit (.int 0)) (.bi .max2 (.cons (.lit (.int 6)) (.cons (.bi .min2 (.cons (.lit (.int 30)) (.cons (.bi .len (.cons (.var 0) .nil)) .nil))) .nil)))) (.seq (.set 2 (.call 38 (.cons (.var 0) (.cons (.var 1) .nil))))
    (.seq (.set 3 (.callIO 45 2 (.cons (.ix (.lst (.cons (.lit (.int 4)) (.cons (.lit (.int 10)) .nil))) (.callIO 39 2 (.cons (.lit (.int 2)) .nil))) .nil)))
    (.seq (.set 4 (.ix (.var 3) (.lit (.int 0))))
    (.seq (.set 5 (.ite (.cmp (.var 4) (.one .lt (.lit (.int 5)))) (.call 58 (.cons (.listRg (.lit (.int 0)) (.var 4)) .nil)) (.lc (.callIO 55 2 (.cons (.var 4) .nil)) (.nm 11) (.rng (.lit (.int 0)) (.lit (.int 8))) (.lit (.bool true)) [11])))
    (.seq (.for_ (.nm 6) (.seq (.var 5)) (.seq (.set 7 (.lc (.call 8 (.cons (.var 3) (.cons (.tupRg (.var 12) (.bin .add (.var 13) (.lit (.int 1)))) .nil))) (.tp (.cs (.nm 12) (.cs (.nm 13) .nl))) (.seq (.call 59 (.cons (.var 6) .nil))) (.lit (.bool true)) [12, 13]))
    (.seq (.ite (.cmp (.call 8 (.cons (.var 3) (.cons (.var 6) .nil))) (.one .ne (.bi .sum (.cons (.var 7) .nil)))) (.seq (.ret (.lit (.bool false)))
    .skip) .skip)
    (.seq (.ite (.cmp (.callIO 60 2 (.cons (.var 3) (.cons (.var 6) .nil))) (.one .ne (.tup (.cons (.call 8 (.cons (.var 3) (.cons (.var 6) .nil))) (.cons (.call 10 (.cons (.var 3) (.cons (.var 6) .nil))) .nil))))) (.seq (.ret (.lit (.bool false)))
    .skip) .skip)
    (.seq (.set 8 (.callIO 55 2 (.cons (.var 4) .nil)))
    (.seq (.set 9 (.bi .tuple (.cons (.bi .srtSet (.cons (.bin .add (.var 6) (.var 8)) .nil)) .nil)))
    (.seq (.set 10 (.bi .tuple (.cons (.lc (.var 14) (.nm 14) (.seq (.var 6)) (.cmp (.var 14) (.one .inn (.var 8))) [14]) .nil)))
    (.seq (.ite (.cmp (.bin .add (.call 8 (.cons (.var 3) (.cons (.var 9) .nil))) (.call 8 (.cons (.var 3) (.cons (.var 10) .nil)))) (.one .lt (.bin .add (.call 8 (.cons (.var 3) (.cons (.var 6) .nil))) (.call 8 (.cons (.var 3) (.cons (.var 8) .nil)))))) (.seq (.ret (.lit (.bool false)))
    .skip) .skip)
    (.seq (.ite (.cmp (.call 8 (.cons (.var 3) (.cons (.var 9) .nil))) (.one .lt (.call 8 (.cons (.var 3) (.cons (.var 6) .nil))))) (.seq (.ret (.lit (.bool false)))
    .skip) .skip)
    .skip)))))))))
    .skip))))))
    (.seq (.ret (.cmp (.call 8 (.cons (.tup (.cons (.lit (.int 2)) (.cons (.tup (.cons (.tup (.cons (.lit (.int 0)) (.cons (.lit (.int 1)) (.cons (.lit (.int 10)) .nil)))) (.cons (.tup (.cons (.lit (.int 1)) (.cons (.lit (.int 1)) (.cons (.lit (.int 4)) .nil)))) .nil))) .nil))) (.cons (.tup (.cons (.lit (.int 0)) (.cons (.lit (.int 1)) .nil))) .nil))) (.one .eq (.lit (.int 14)))))
    .skip))⟩
def a_require_number : Fd := ⟨1, 1, false, (.seq (.ite (.not (.call 0 (.cons (.var 0) (.cons (.lit (.int 0)) (.cons (.lit (.int 10)) .nil))))) (.seq (.raise "InvalidNumber")
    .skip) .skip)
    .skip)⟩
def a_best_set : Fd := ⟨3, 4, false, (.seq (.ex (.call 4 (.cons (.var 0) .nil)))
    (.seq (.ex (.call 86 (.cons (.var 1) .nil)))
    (.seq (.ex (.call 5 (.cons (.ix (.var 0) (.lit (.int 0))) (.cons (.var 2) .nil))))
    (.seq (.set 3 (.call 15 (.cons (.var 0) (.cons (.var 2) .nil))))
    (.seq (.ret (.ite (.cmp (.var 1) (.one .lt (.bi .len (.cons (.var 3) .nil)))) (.ix (.ix (.var 3) (.var 1)) (.lit (.int 1))) (.lit .none)))
    .skip)))))⟩
def a_require_amount : Fd := ⟨1, 1, false, (.seq (.ite (.not (.call 0 (.cons (.var 0) (.cons (.lit (.int 0)) (.cons (.lit (.int 1000000000000000)) .nil))))) (.seq (.raise "InvalidNumber")
    .skip) .skip)
    .skip)⟩
def a_fewest_for : Fd := ⟨3, 4, false, (.seq (.ex (.call 4 (.cons (.var 0) .nil)))
    (.seq (.ex (.call 91 (.cons (.var 1) .nil)))
    (.seq (.ex (.call 5 (.cons (.ix (.var 0) (.lit (.int 0))) (.cons (.var 2) .nil))))
    (.seq (.for_ (.nm 3) (.seq (.call 14 (.cons (.ix (.var 0) (.lit (.int 0))) (.cons (.var 2) .nil)))) (.seq (.ite (.cmp (.call 7 (.cons (.var 0) (.cons (.var 3) .nil))) (.one .ge (.var 1))) (.seq (.ret (.var 3))
    .skip) .skip)
    .skip))
    (.seq (.ret (.lit .none))
    .skip)))))⟩
def a__law_outcome_k13 : Fd := ⟨2, 3, false, (.seq (.try_ (.seq (.ex (.call 92 (.cons (.var 0) (.cons (.var 1) (.cons (.lit .none) .nil)))))
    .skip) "SpaceError" 2)
    (.seq (.ret (.lit (.str "fine")))
    .skip))⟩
def a_law_k13 : Fd := ⟨1, 15, false, (.seq (.for_ (.nm 1) (.rng (.lit (.int 0)) (.bi .max2 (.cons (.lit (.int 5)) (.cons (.bi .min2 (.cons (.lit (.int 16)) (.cons (.bi .len (.cons (.var 0) .nil)) .nil))) .nil)))) (.seq (.set 2 (.call 38 (.cons (.var 0) (.cons (.var 1) .nil))))
    (.seq (.set 3 (.callIO 45 2 (.cons (.ix (.lst (.cons (.lit (.int 5)) (.cons (.lit (.int 9)) .nil))) (.callIO 39 2 (.cons (.lit (.int 2)) .nil))) .nil)))
    (.seq (.set 4 (.ix (.var 3) (.lit (.int 0))))
    (.seq (.set 5 (.ite (.cmp (.callIO 39 2 (.cons (.lit (.int 2)) .nil)) (.one .eq (.lit (.int 0)))) (.callIO 55 2 (.cons (.var 4) .nil)) (.tup .nil)))
    (.seq (.set 6 (.lst .nil))
    (.seq (.for_ (.nm 7) (.seq (.call 58 (.cons (.lc (.var 13) (.nm 13) (.rng (.lit (.int 0)) (.var 4)) (.cmp (.var 13) (.one .notIn (.var 5))) [13]) .nil))) (.seq (.ex (.app 6 (.tup (.cons (.var 7) (.cons (.call 52 (.cons (.var 3) (.cons (.var 7) .nil))) .nil)))))
    .skip))
    (.seq (.set 8 (.lst (.cons (.lit (.int 0)) (.cons (.lit (.int 1)) (.cons (.ix (.ix (.var 6) (.neg (.lit (.int 1)))) (.lit (.int 1))) (.cons (.bin .add (.ix (.ix (.var 6) (.neg (.lit (.int 1)))) (.lit (.int 1))) (.lit (.int 1))) (.cons (.bin .pow (.lit (.int 10)) (.lit (.int 15))) .nil)))))))
    (.seq (.for_ (.nm 9) (.rng (.lit (.int 0)) (.lit (.int 6))) (.seq (.ex (.app 8 (.bi .max2 (.cons (.lit (.int 0)) (.cons (.bin .sub (.bin .add (.ix (.ix (.var 6) (.callIO 39 2 (.cons (.bi .len (.cons (.var 6) .nil)) .nil))) (.lit (.int 1))) (.callIO 39 2 (.cons (.lit (.int 3)) .nil))) (.lit (.int 1))) .nil)))))
    .skip))
    (.seq (.for_ (.nm 10) (.seq (.var 8)) (.seq (.set 12 (.lc (.var 7) (.tp (.cs (.nm 7) (.cs (.nm 14) .nl))) (.seq (.var 6)) (.cmp (.var 14) (.one .ge (.var 10))) [7, 14]))
    (.seq (.ite (.cmp (.call 92 (.cons (.var 3) (.cons (.var 10) (.cons (.var 5) .nil)))) (.one .ne (.ite (.cmp (.var 12) (.one .ne (.lst .nil))) (.ix (.var 12) (.lit (.int 0))) (.lit .none)))) (.seq (.ret (.lit (.bool false)))
    .skip) .skip)
    .skip)))
    (.seq (.for_ (.nm 11) (.seq (.lst (.cons (.neg (.lit (.int 1))) (.cons (.bin .add (.bin .pow (.lit (.int 10)) (.lit (.int 15))) (.lit (.int 1))) (.cons (.lit .none) (.cons (.lit (.bool true)) (.cons (.lit (.str "1")) .nil))))))) (.seq (.ite (.cmp (.call 93 (.cons (.var 3) (.cons (.var 11) .nil))) (.one .ne (.lit (.str "number")))) (.seq (.ret (.lit (.bool false)))
    .skip) .skip)
    .skip))
    .skip)))))))))))
    (.seq (.ret (.cmp (.call 92 (.cons (.tup (.cons (.lit (.int 2)) (.cons (.tup (.cons (.tup (.cons (.lit (.int 0)) (.cons (.lit (.int 1)) (.cons (.lit (.int 10)) .nil)))) (.cons (.tup (.cons (.lit (.int 1)) (.cons (.lit (.int 1)) (.cons (.lit (.int 4)) .nil)))) .nil))) .nil))) (.cons (.lit (.int 5)) (.cons (.tup .nil) .nil)))) (.one .eq (.tup (.cons (.lit (.int 0)) (.cons (.lit (.int 1)) .nil))))))
    .skip))⟩
def a_greedy_set : Fd := ⟨2, 6, false, (.seq (.ex (.call 4 (.cons (.var 0) .nil)))
    (.seq (.ex (.call 86 (.cons (.var 1) .nil)))
    (.seq (.ite (.cmp (.var 1) (.one .gt (.ix (.var 0) (.lit (.int 0))))) (.seq (.ret (.lit .none))
    .skip) .skip)
    (.seq (.set 2 (.lst .nil))
    (.seq (.for_ (.nm 3) (.rng (.lit (.int 0)) (.var 1)) (.seq (.set 4 (.lc (.tup (.cons (.neg (.call 7 (.cons (.var 0) (.cons (.bin .add (.var 2) (.lst (.cons (.var 5) .nil))) .nil)))) (.cons (.var 5) .nil))) (.nm 5) (.rng (.lit (.int 0)) (.ix (.var 0) (.lit (.int 0)))) (.cmp (.var 5) (.one .notIn (.var 2))) [5]))
    (.seq (.ex (.app 2 (.ix (.bi .minT (.cons (.var 4) .nil)) (.lit (.int 1)))))
    .skip)))
    (.seq (.ret (.bi .tuple (.cons (.bi .sorted (.cons (.var 2) .nil)) .nil)))
    .skip))))))⟩
def a__law_greedy : Fd := ⟨2, 8, false, (.seq (.par [3, 4] (.cons (.listRg (.lit (.int 0)) (.ix (.var 0) (.lit (.int 0)))) (.cons (.lst .nil) .nil)))
    (.seq (.for_ (.nm 2) (.rng (.lit (.int 0)) (.var 1)) (.seq (.set 5 (.lc (.call 52 (.cons (.var 0) (.cons (.tup (.cons (.var 7) .nil)) .nil))) (.nm 7) (.rng (.lit (.int 0)) (.ix (.var 0) (.lit (.int 0)))) (.lit (.bool true)) [7]))
    (.seq (.set 6 (.index (.var 5) (.bi .max1 (.cons (.var 5) .nil))))
    (.seq (.ex (.app 4 (.pop 3 (.var 6))))
    (.seq (.set 0 (.call 54 (.cons (.var 0) (.cons (.tup (.cons (.var 6) .nil)) .nil))))
    .skip)))))
    (.seq (.ret (.bi .tuple (.cons (.bi .sorted (.cons (.var 4) .nil)) .nil)))
    .skip)))⟩
def a_law_k14 : Fd := ⟨1, 7, false, (.seq (.for_ (.nm 1) (.rng (.lit (.int 0)) (.bi .max2 (.cons (.lit (.int 6)) (.cons (.bi .min2 (.cons (.lit (.int 30)) (.cons (.bi .len (.cons (.var 0) .nil)) .nil))) .nil)))) (.seq (.set 3 (.call 38 (.cons (.var 0) (.cons (.var 1) .nil))))
    (.seq (.set 4 (.callIO 45 3 (.cons (.ix (.lst (.cons (.lit (.int 5)) (.cons (.lit (.int 10)) .nil))) (.callIO 39 3 (.cons (.lit (.int 2)) .nil))) .nil)))
    (.seq (.for_ (.nm 5) (.rng (.lit (.int 0)) (.lit (.int 11))) (.seq (.set 6 (.call 95 (.cons (.var 4) (.cons (.var 5) .nil))))
    (.seq (.ite (.cmp (.var 5) (.one .gt (.ix (.var 4) (.lit (.int 0))))) (.seq (.ite (.cmp (.var 6) (.one .notN (.lit .none))) (.seq (.ret (.lit (.bool false)))
    .skip) .skip)
    .skip) (.seq (.ite (.cmp (.var 6) (.one .ne (.call 96 (.cons (.var 4) (.cons (.var 5) .nil))))) (.seq (.ret (.lit (.bool false)))
    .skip) .skip)
    (.seq (.ite (.cmp (.call 52 (.cons (.var 4) (.cons (.var 6) .nil))) (.one .gt (.call 52 (.cons (.var 4) (.cons (.call 87 (.cons (.var 4) (.cons (.var 5) (.cons (.tup .nil) .nil)))) .nil))))) (.seq (.ret (.lit (.bool false)))
    .skip) .skip)
    .skip)))
    .skip)))
    .skip))))
    (.seq (.set 2 (.tup (.cons (.lit (.int 3)) (.cons (.tup (.cons (.tup (.cons (.lit (.int 0)) (.cons (.lit (.int 1)) (.cons (.lit (.int 10)) .nil)))) (.cons (.tup (.cons (.lit (.int 1)) (.cons (.lit (.int 1)) (.cons (.lit (.int 4)) .nil)))) (.cons (.tup (.cons (.lit (.int 1)) (.cons (.lit (.int 3)) (.cons (.lit (.int 7)) .nil)))) (.cons (.tup (.cons (.lit (.int 2)) (.cons (.lit (.int 2)) (.cons (.lit (.int 5)) .nil)))) (.cons (.tup (.cons (.lit (.int 3)) (.cons (.lit (.int 3)) (.cons (.lit (.int 2)) .nil)))) .nil)))))) .nil))))
    (.seq (.ret (.and (.cons (.cmp (.call 95 (.cons (.var 2) (.cons (.lit (.int 2)) .nil))) (.one .eq (.tup (.cons (.lit (.int 1)) (.cons (.lit (.int 2)) .nil))))) (.cons (.cmp (.call 8 (.cons (.var 2) (.cons (.tup (.cons (.lit (.int 1)) (.cons (.lit (.int 2)) .nil))) .nil))) (.one .eq (.lit (.int 9)))) (.cons (.cmp (.call 8 (.cons (.var 2) (.cons (.tup (.cons (.lit (.int 0)) (.cons (.lit (.int 1)) .nil))) .nil))) (.one .eq (.lit (.int 14)))) .nil)))))
    .skip)))⟩
def a_sent : Fd := ⟨3, 7, false, (.seq (.set 3 (.lit (.int 0)))
    (.seq (.for_ (.tp (.cs (.nm 4) (.cs (.nm 5) (.cs (.nm 6) .nl)))) (.seq (.ix (.var 0) (.lit (.int 1)))) (.seq (.ite (.and (.cons (.cmp (.var 4) (.more .le (.var 2) (.one .le (.var 5)))) (.cons (.or (.cons (.cmp (.var 1) (.one .isN (.lit .none))) (.cons (.cmp (.var 1) (.one .lt (.var 4))) .nil))) .nil))) (.seq (.set 3 (.bin .add (.var 3) (.var 6)))
    .skip) .skip)
    .skip))
    (.seq (.ret (.var 3))
    .skip)))⟩
def a__law_sent : Fd := ⟨3, 8, false, (.seq (.set 3 (.lit (.int 0)))
    (.seq (.for_ (.tp (.cs (.nm 4) (.cs (.nm 5) (.cs (.nm 6) .nl)))) (.seq (.ix (.var 0) (.lit (.int 1)))) (.seq (.set 7 (.listRg (.var 4) (.bin .add (.var 5) (.lit (.int 1)))))
    (.seq (.ite (.and (.cons (.cmp (.var 2) (.one .inn (.var 7))) (.cons (.or (.cons (.cmp (.var 1) (.one .isN (.lit .none))) (.cons (.cmp (.var 1) (.one .notIn (.var 7))) .nil))) .nil))) (.seq (.set 3 (.bin .add (.var 3) (.var 6)))
    .skip) .skip)
    .skip)))
    (.seq (.ret (.var 3))
    .skip)))⟩
def a_revealed : Fd := ⟨4, 7, false, (.seq (.ex (.call 24 (.cons (.var 0) .nil)))
    (.seq (.ex (.call 28 (.cons (.var 0) (.cons (.var 1) (.cons (.var 2) .nil)))))
    (.seq (.ite (.not (.call 0 (.cons (.var 3) (.cons (.lit (.int 0)) (.cons (.lit (.int 1000000000000000)) .nil))))) (.seq (.raise "InvalidNumber")
    .skip) .skip)
    (.seq (.set 4 (.bin .sub (.ix (.ix (.var 0) (.bin .add (.var 2) (.lit (.int 1)))) (.lit (.int 0))) (.var 3)))
    (.seq (.setT (.tp (.cs (.nm 5) (.cs (.nm 6) .nl))) (.call 30 (.cons (.var 0) (.cons (.var 1) (.cons (.var 2) .nil)))))
    (.seq (.ret (.ite (.cmp (.var 5) (.more .le (.var 4) (.one .le (.var 6)))) (.bin .add (.call 29 (.cons (.var 0) (.cons (.var 1) (.cons (.var 2) .nil)))) (.var 4)) (.lit .none)))
    .skip))))))⟩
def a__law_outcome_k25 : Fd := ⟨2, 3, false, (.seq (.try_ (.seq (.ex (.call 122 (.cons (.var 0) (.cons (.lit (.int 0)) (.cons (.lit (.int 0)) (.cons (.var 1) .nil))))))
    .skip) "SpaceError" 2)
    (.seq (.ret (.lit (.str "fine")))
    .skip))⟩
def a_law_k25 : Fd := ⟨1, 16, false, (.seq (.for_ (.nm 1) (.rng (.lit (.int 0)) (.bi .max2 (.cons (.lit (.int 5)) (.cons (.bi .min2 (.cons (.lit (.int 20)) (.cons (.bi .len (.cons (.var 0) .nil)) .nil))) .nil)))) (.seq (.set 3 (.call 38 (.cons (.var 0) (.cons (.var 1) .nil))))
    (.seq (.set 4 (.callIO 45 3 (.cons (.ix (.lst (.cons (.lit (.int 4)) (.cons (.lit (.int 10)) .nil))) (.callIO 39 3 (.cons (.lit (.int 2)) .nil))) .nil)))
    (.seq (.set 5 (.call 46 (.cons (.var 4) .nil)))
    (.seq (.for_ (.nm 6) (.rng (.lit (.int 0)) (.ix (.var 4) (.lit (.int 0)))) (.seq (.for_ (.nm 7) (.rng (.var 6) (.ix (.var 4) (.lit (.int 0)))) (.seq (.set 9 (.tupRg (.var 6) (.bin .add (.var 7) (.lit (.int 1)))))
    (.seq (.set 10 (.ix (.ix (.call 25 (.cons (.call 10 (.cons (.var 4) (.cons (.var 9) .nil))) .nil)) (.var 6)) (.lit (.int 1))))
    (.seq (.ite (.cmp (.call 122 (.cons (.var 5) (.cons (.var 6) (.cons (.var 7) (.cons (.var 10) .nil))))) (.one .ne (.call 52 (.cons (.var 4) (.cons (.var 9) .nil))))) (.seq (.ret (.lit (.bool false)))
    .skip) .skip)
    (.seq (.setT (.tp (.cs (.nm 12) (.cs (.nm 13) .nl))) (.call 31 (.cons (.var 5) (.cons (.var 6) (.cons (.var 7) .nil)))))
    (.seq (.for_ (.nm 11) (.seq (.lst (.cons (.bin .sub (.var 10) (.lit (.int 1))) (.cons (.bin .add (.var 10) (.lit (.int 1))) (.cons (.ix (.ix (.var 5) (.bin .add (.var 7) (.lit (.int 1)))) (.lit (.int 0))) (.cons (.ix (.ix (.var 5) (.bin .add (.var 7) (.lit (.int 1)))) (.lit (.int 1))) (.cons (.bin .add (.ix (.ix (.var 5) (.bin .add (.var 7) (.lit (.int 1)))) (.lit (.int 0))) (.lit (.int 1))) .nil))))))) (.seq (.ite (.cmp (.var 11) (.one .ge (.lit (.int 0)))) (.seq (.set 14 (.bin .sub (.bin .add (.call 52 (.cons (.var 4) (.cons (.var 9) .nil))) (.var 10)) (.var 11)))
    (.seq (.set 15 (.ite (.cmp (.var 12) (.more .le (.var 14) (.one .le (.var 13)))) (.var 14) (.lit .none)))
    (.seq (.ite (.cmp (.call 122 (.cons (.var 5) (.cons (.var 6) (.cons (.var 7) (.cons (.var 11) .nil))))) (.one .ne (.var 15))) (.seq (.ret (.lit (.bool false)))
    .skip) .skip)
    .skip))) .skip)
    .skip))
    .skip))))))
    .skip))
    (.seq (.ite (.cmp (.ix (.var 4) (.lit (.int 0))) (.one .gt (.lit (.int 0)))) (.seq (.for_ (.nm 8) (.seq (.lst (.cons (.neg (.lit (.int 1))) (.cons (.bin .add (.bin .pow (.lit (.int 10)) (.lit (.int 15))) (.lit (.int 1))) (.cons (.lit .none) (.cons (.lit (.bool true)) (.cons (.lit (.str "1")) .nil))))))) (.seq (.ite (.cmp (.call 123 (.cons (.var 5) (.cons (.var 8) .nil))) (.one .ne (.lit (.str "number")))) (.seq (.ret (.lit (.bool false)))
    .skip) .skip)
    .skip))
    .skip) .skip)
    .skip))))))
    (.seq (.set 2 (.tup (.cons (.tup (.cons (.lit (.int 10)) (.cons (.lit (.int 10)) .nil))) (.cons (.tup (.cons (.lit (.int 21)) (.cons (.lit (.int 11)) .nil))) (.cons (.tup (.cons (.lit (.int 12)) (.cons (.lit (.int 5)) .nil))) (.cons (.tup (.cons (.lit (.int 9)) (.cons (.lit (.int 2)) .nil))) .nil))))))
    (.seq (.ret (.and (.cons (.cmp (.call 122 (.cons (.var 2) (.cons (.lit (.int 1)) (.cons (.lit (.int 1)) (.cons (.lit (.int 9)) .nil))))) (.one .eq (.lit (.int 7)))) (.cons (.cmp (.call 122 (.cons (.var 2) (.cons (.lit (.int 1)) (.cons (.lit (.int 1)) (.cons (.lit (.int 4)) .nil))))) (.one .isN (.lit .none))) .nil))))
    .skip)))⟩
def a_hidden_deletions : Fd := ⟨2, 4, false, (.seq (.ex (.call 4 (.cons (.var 0) .nil)))
    (.seq (.ex (.call 4 (.cons (.var 1) .nil)))
    (.seq (.set 2 (.lst .nil))
    (.seq (.for_ (.nm 3) (.seq (.call 13 (.cons (.listRg (.lit (.int 0)) (.ix (.var 0) (.lit (.int 0)))) .nil))) (.seq (.ite (.and (.cons (.cmp (.bin .sub (.ix (.var 0) (.lit (.int 0))) (.bi .len (.cons (.var 3) .nil))) (.one .eq (.ix (.var 1) (.lit (.int 0))))) (.cons (.cmp (.call 9 (.cons (.var 0) (.cons (.var 3) .nil))) (.one .eq (.var 1))) .nil))) (.seq (.ex (.app 2 (.var 3)))
    .skip) .skip)
    .skip))
    (.seq (.ret (.bi .sorted (.cons (.var 2) .nil)))
    .skip)))))⟩
def a_sets_that_free : Fd := ⟨2, 3, false, (.seq (.ex (.call 4 (.cons (.var 0) .nil)))
    (.seq (.ex (.call 91 (.cons (.var 1) .nil)))
    (.seq (.ite (.cmp (.ix (.var 0) (.lit (.int 0))) (.one .gt (.lit (.int 8)))) (.seq (.raise "TooMany")
    .skip) .skip)
    (.seq (.ret (.bi .sorted (.cons (.lc (.var 2) (.nm 2) (.seq (.call 13 (.cons (.listRg (.lit (.int 0)) (.ix (.var 0) (.lit (.int 0)))) .nil))) (.cmp (.call 7 (.cons (.var 0) (.cons (.var 2) .nil))) (.one .eq (.var 1))) [2]) .nil)))
    .skip))))⟩
def a__law_outcome_k31 : Fd := ⟨2, 3, false, (.seq (.try_ (.seq (.ex (.call 127 (.cons (.var 0) (.cons (.var 1) .nil))))
    .skip) "SpaceError" 2)
    (.seq (.ret (.lit (.str "fine")))
    .skip))⟩
def dm : Fd := ⟨0, 0, false, .skip⟩
def T : List Fd := [a_is_integer, a_is_ascending, a_is_row, a_is_layout, a_require_layout, a_require_set, a_total_space, a_freed_by, a_freed, a_reduced, a_layout_after, dm, dm, a_all_sets, a_free_sets, a_best_of_each, dm, dm, a_unique_sizes, dm, dm, dm, a_is_pair, a_is_report, a_require_report, a_report_of, a_crossing, a_entering, a_require_run, a_inside, a_passing_range, a_freed_range, dm, dm, dm, dm, dm, dm, a__law_source, a__law_pick, dm, dm, dm, dm, dm, a__law_layout, a__law_report, dm, dm, dm, dm, dm, a__law_freed, a__law_merged, a__law_after, a__law_set, a__law_outcome_k02, a_law_k02, a__law_subsets, a__law_runs, a__law_one_by_one, a_law_k03, dm, dm, dm, dm, dm, dm, dm, dm, dm, dm, dm, dm, dm, dm, dm, dm, dm, dm, dm, dm, dm, dm, dm, dm, a_require_number, a_best_set, dm, dm, dm, a_require_amount, a_fewest_for, a__law_outcome_k13, a_law_k13, a_greedy_set, a__law_greedy, a_law_k14, dm, dm, dm, dm, dm, a_sent, dm, dm, a__law_sent, dm, dm, dm, dm, dm, dm, dm, dm, dm, dm, dm, dm, dm, dm, dm, a_revealed, a__law_outcome_k25, a_law_k25, dm, a_hidden_deletions, a_sets_that_free, a__law_outcome_k31, dm, dm, dm, dm, dm, dm, dm, dm, dm, dm, dm, dm, dm, dm, dm, dm, dm, dm, dm, dm, dm, dm, dm, dm, dm, dm, dm, dm, dm, dm, dm, dm, dm, dm, dm]
end Tx
namespace Tx
open PySem PySem.Spec PyProof.Rows Sn
def topS (i : Nat) : Stmt := PySem.Challenge.pw_snapspace_k14_greedy_plans.main.body.getD i (.Pass ⟨0, 0, 0, 0⟩)
def Ds : List Df := [⟨"is_integer", ["value", "low", "high"], 3, L2.defArgs (topS 8), L2.defBody (topS 8), L2.defScope (topS 8)⟩,
  ⟨"is_ascending", ["items", "one", "other"], 1, L2.defArgs (topS 9), L2.defBody (topS 9), L2.defScope (topS 9)⟩,
  ⟨"is_row", ["count", "value"], 2, L2.defArgs (topS 10), L2.defBody (topS 10), L2.defScope (topS 10)⟩,
  ⟨"is_layout", ["value", "row"], 1, L2.defArgs (topS 11), L2.defBody (topS 11), L2.defScope (topS 11)⟩,
  ⟨"require_layout", ["layout"], 1, L2.defArgs (topS 12), L2.defBody (topS 12), L2.defScope (topS 12)⟩,
  ⟨"require_set", ["count", "value", "one"], 2, L2.defArgs (topS 13), L2.defBody (topS 13), L2.defScope (topS 13)⟩,
  ⟨"freed_by", ["layout", "deleted", "found", "first", "last", "size", "position"], 2, L2.defArgs (topS 14), L2.defBody (topS 14), L2.defScope (topS 14)⟩,
  ⟨"freed", ["layout", "deleted"], 2, L2.defArgs (topS 15), L2.defBody (topS 15), L2.defScope (topS 15)⟩,
  ⟨"all_sets", ["positions", "found", "position", "rows", "one", "size"], 1, L2.defArgs (topS 17), L2.defBody (topS 17), L2.defScope (topS 17)⟩,
  ⟨"free_sets", ["count", "protected", "position"], 2, L2.defArgs (topS 18), L2.defBody (topS 18), L2.defScope (topS 18)⟩,
  ⟨"best_of_each", ["layout", "protected", "found", "one", "size"], 2, L2.defArgs (topS 19), L2.defBody (topS 19), L2.defScope (topS 19)⟩,
  ⟨"require_number", ["value"], 1, L2.defArgs (topS 20), L2.defBody (topS 20), L2.defScope (topS 20)⟩,
  ⟨"best_set", ["layout", "number", "protected", "rows"], 3, L2.defArgs (topS 21), L2.defBody (topS 21), L2.defScope (topS 21)⟩,
  ⟨"greedy_set", ["layout", "number", "found", "turn", "rows", "at"], 2, L2.defArgs (topS 22), L2.defBody (topS 22), L2.defScope (topS 22)⟩,
  ⟨"_law_source", ["script", "k", "cell", "primes", "seed"], 2, L2.defArgs (topS 24), L2.defBody (topS 24), L2.defScope (topS 24)⟩,
  ⟨"_law_pick", ["source", "size", "drawn"], 2, L2.defArgs (topS 25), L2.defBody (topS 25), L2.defScope (topS 25)⟩,
  ⟨"_law_layout", ["source", "most", "wide", "turn", "count", "table", "first", "last", "key"], 2, L2.defArgs (topS 26), L2.defBody (topS 26), L2.defScope (topS 26)⟩,
  ⟨"_law_freed", ["layout", "deleted", "found", "first", "last", "size", "position"], 2, L2.defArgs (topS 27), L2.defBody (topS 27), L2.defScope (topS 27)⟩,
  ⟨"_law_merged", ["count", "rows", "table", "first", "last", "size", "key"], 2, L2.defArgs (topS 28), L2.defBody (topS 28), L2.defScope (topS 28)⟩,
  ⟨"_law_after", ["layout", "deleted", "left", "rows", "first", "last", "size", "held", "position"], 2, L2.defArgs (topS 29), L2.defBody (topS 29), L2.defScope (topS 29)⟩,
  ⟨"_law_greedy", ["layout", "number", "turn", "left", "found", "sizes", "at", "position"], 2, L2.defArgs (topS 30), L2.defBody (topS 30), L2.defScope (topS 30)⟩,
  ⟨"law", ["script", "k", "example", "source", "layout", "number", "actual"], 1, L2.defArgs (topS 31), L2.defBody (topS 31), L2.defScope (topS 31)⟩]
def tb : Tb := ⟨([("is_integer", 0, false), ("is_ascending", 1, false), ("is_row", 2, false), ("is_layout", 3, false), ("require_layout", 4, false), ("require_set", 5, false), ("freed_by", 7, false), ("freed", 8, false), ("all_sets", 13, false), ("free_sets", 14, false), ("best_of_each", 15, false), ("require_number", 86, false), ("best_set", 87, false), ("greedy_set", 95, false), ("_law_source", 38, false), ("_law_pick", 39, true), ("_law_layout", 45, true), ("_law_freed", 52, false), ("_law_merged", 53, false), ("_law_after", 54, false), ("_law_greedy", 96, false), ("law", 97, false)] : List (Str × Nat × Bool)), [("MAX_COUNT", 10), ("MAX_AMOUNT", 1000000000000000)], ["len", "range", "all", "sorted", "tuple", "list", "zip", "isinstance", "int", "bool", "min", "max", "ValueError"], ["InvalidLayout", "InvalidSet", "InvalidNumber"], none⟩
theorem ok : okB tb T Ds = true := by decide +kernel
theorem bds : AllB Ds := ⟨(fun _ _ _ _ _ _ us hl => match us, hl with | [_, _, _], _ => rfl),
  (fun _ _ _ _ _ _ us hl => match us, hl with | [_], _ => rfl),
  (fun _ _ _ _ _ _ us hl => match us, hl with | [_, _], _ => rfl),
  (fun _ _ _ _ _ _ us hl => match us, hl with | [_], _ => rfl),
  (fun _ _ _ _ _ _ us hl => match us, hl with | [_], _ => rfl),
  (fun _ _ _ _ _ _ us hl => match us, hl with | [_, _], _ => rfl),
  (fun _ _ _ _ _ _ us hl => match us, hl with | [_, _], _ => rfl),
  (fun _ _ _ _ _ _ us hl => match us, hl with | [_, _], _ => rfl),
  (fun _ _ _ _ _ _ us hl => match us, hl with | [_], _ => rfl),
  (fun _ _ _ _ _ _ us hl => match us, hl with | [_, _], _ => rfl),
  (fun _ _ _ _ _ _ us hl => match us, hl with | [_, _], _ => rfl),
  (fun _ _ _ _ _ _ us hl => match us, hl with | [_], _ => rfl),
  (fun _ _ _ _ _ _ us hl => match us, hl with | [_, _, _], _ => rfl),
  (fun _ _ _ _ _ _ us hl => match us, hl with | [_, _], _ => rfl),
  (fun _ _ _ _ _ _ us hl => match us, hl with | [_, _], _ => rfl),
  (fun _ _ _ _ _ _ us hl => match us, hl with | [_, _], _ => rfl),
  (fun _ _ _ _ _ _ us hl => match us, hl with | [_, _], _ => rfl),
  (fun _ _ _ _ _ _ us hl => match us, hl with | [_, _], _ => rfl),
  (fun _ _ _ _ _ _ us hl => match us, hl with | [_, _], _ => rfl),
  (fun _ _ _ _ _ _ us hl => match us, hl with | [_, _], _ => rfl),
  (fun _ _ _ _ _ _ us hl => match us, hl with | [_, _], _ => rfl),
  (fun _ _ _ _ _ _ us hl => match us, hl with | [_], _ => rfl),
  trivial⟩
end Tx

namespace Tx
open PySem PySem.Spec Sn Mx
def inB (v lo hi : Int) : Bool := decide (lo ≤ v) && decide (v ≤ hi)
theorem ok_is_integer (n : Nat) (v lo hi : Int) : sem T (n+1) 0 [.int v, .int lo, .int hi] = .ret (.v (.bool (inB v lo hi))) [] := by
  rw [sem_at (fd := a_is_integer) rfl]
  simp [runF, startE, a_is_integer, biD, inB]
theorem ok_asc_t {α : Type} (n : Nat) (enc : α → D) (lt : α → α → Bool) (h : ∀ a b, cmpD .lt (enc a) (enc b) = some (lt a b)) (l : List α) :
    sem T (n+1) 1 [.tuple (l.map enc)] = .ret (.v (.bool (adj lt l))) [] := by
  rw [sem_at (fd := a_is_ascending) rfl]
  simp [runF, startE, a_is_ascending]
  rw [lc_all (prs l) (fun q => .tuple [enc q.1, enc q.2]) (fun q => .bool (lt q.1 q.2))]
  · simp [m_all, adj_prs]
  · simp [slcI, cut_1, zip_prs]
  · simp [freeE_cons]
  · intro a ha
    exact ⟨_, by simp [asg, wipeE, setS_eq]; rfl, by simp [wipeE], by simp [h]⟩
theorem ok_asc_l {α : Type} (n : Nat) (enc : α → D) (lt : α → α → Bool) (h : ∀ a b, cmpD .lt (enc a) (enc b) = some (lt a b)) (l : List α) :
    sem T (n+1) 1 [.list (l.map enc)] = .ret (.v (.bool (adj lt l))) [] := by
  rw [sem_at (fd := a_is_ascending) rfl]
  simp [runF, startE, a_is_ascending]
  rw [lc_all (prs l) (fun q => .tuple [enc q.1, enc q.2]) (fun q => .bool (lt q.1 q.2))]
  · simp [m_all, adj_prs]
  · simp [slcI, cut_1, zip_prs]
  · simp [freeE_cons]
  · intro a ha
    exact ⟨_, by simp [asg, wipeE, setS_eq]; rfl, by simp [wipeE], by simp [h]⟩

def eL (L : Lay) : D := .tuple [.int L.c, .tuple (L.rows.map eR)]
def rowB (c : Int) (r : Rw) : Bool := inB r.2.2 1 1000000000000000 && (inB r.2.1 0 c && inB r.1 0 r.2.1)
def layB (L : Lay) : Bool := inB L.c 0 10 && (L.rows.all (rowB L.c) && adj kLt (L.rows.map key))
theorem kLt_eq (a b : Int × Int) : cmpD .lt (eK a) (eK b) = some (kLt a b) := by
  show (match intsD [.int a.1, .int a.2], intsD [.int b.1, .int b.2] with
    | some ns, some ms => some (HT.lexLt ns ms)
    | _, _ => none) = _
  simp only [intsD, Option.map_some, HT.lexLt, kLt]
  congr 1
  by_cases e : a.1 = b.1
  · rw [if_pos e, if_pos e]
    by_cases e2 : a.2 = b.2
    · rw [if_pos e2]; simp [e2]
    · rw [if_neg e2]
  · rw [if_neg e, if_neg e]
theorem ok_is_row (n : Nat) (c : Int) (r : Rw) : sem T (n+2) 2 [.int c, eR r] = .ret (.v (.bool (rowB c r))) [] := by
  rw [sem_at (fd := a_is_row) rfl]
  simp [runF, startE, a_is_row, eR, ok_is_integer, rowB]
  cases inB r.2.2 1 1000000000000000 <;> simp
  simp [ok_is_integer]
theorem ok_is_layout (n : Nat) (L : Lay) : sem T (n+3) 3 [eL L] = .ret (.v (.bool (layB L))) [] := by
  rw [sem_at (fd := a_is_layout) rfl]
  simp [runF, startE, a_is_layout, eL, ok_is_integer, layB]
  cases inB L.c 0 10 <;> simp
  rw [lc_all L.rows eR (fun r => .bool (rowB L.c r))]
  · simp [m_all]
    cases L.rows.all (rowB L.c) <;> simp
    rw [lc_all L.rows eR (fun r => eK (key r))]
    · simp
      have := ok_asc_l (n+1) eK kLt kLt_eq (L.rows.map key)
      simp [Function.comp_def] at this ⊢
      simp [this]
    · simp
    · simp [freeE_cons]
    · intro a ha
      exact ⟨_, by simp [asg, wipeE, setS_eq]; rfl, by simp [wipeE], by simp [eR, slcI, eK, key, cutD, HT.sIx]⟩
  · simp
  · simp [freeE_cons]
  · intro a ha
    exact ⟨_, by simp [asg, wipeE, setS_eq]; rfl, by simp [wipeE], by simp [ok_is_row]⟩
theorem ok_require_layout (n : Nat) (L : Lay) (h : layB L = true) : sem T (n+4) 4 [eL L] = .ret (.v .none) [] := by
  rw [sem_at (fd := a_require_layout) rfl]
  simp [runF, startE, a_require_layout, ok_is_layout, h]
def setB (c : Int) (S : List Int) : Bool := S.all (fun v => inB v 0 (c - 1)) && adj (fun a b => decide (a < b)) S
theorem ok_require_set (n : Nat) (c : Int) (S : List Int) (h : setB c S = true) : sem T (n+2) 5 [.int c, eT S] = .ret (.v .none) [] := by
  rw [sem_at (fd := a_require_set) rfl]
  unfold setB at h
  rw [Bool.and_eq_true] at h
  simp [runF, startE, a_require_set, eT]
  rw [lc_all S .int (fun r => .bool (inB r 0 (c - 1)))]
  · simp [m_all, h.1]
    have := ok_asc_t n .int (fun a b => decide (a < b)) (fun a b => rfl) S
    simp [this, h.2]
  · simp
  · simp [freeE_cons]
  · intro a ha
    exact ⟨_, by simp [asg, wipeE, setS_eq]; rfl, by simp [wipeE], by simp [ok_is_integer]⟩

def smallR (r : Rw) : Prop := -1000000 ≤ r.1 ∧ r.1 ≤ 1000000 ∧ -1000000 ≤ r.2.1 ∧ r.2.1 ≤ 1000000
def I_frd (L : Lay) (S : List Int) (rem : List Rw) (ρ : En) : Prop := ∃ acc s3 s4 s5, Frs (some s3) = true ∧ Frs (some s4) = true ∧ Frs (some s5) = true ∧ ρ = [.v (eL L), .v (eT S), .v (.int acc), s3, s4, s5, .un] ∧ acc + frd S rem = frd S L.rows ∧ ∀ r ∈ rem, smallR r
theorem ok_freed_by (n : Nat) (L : Lay) (S : List Int) (hr : ∀ r ∈ L.rows, smallR r) : sem T (n+1) 7 [eL L, eT S] = .ret (.v (.int (frd S L.rows))) [] := by
  rw [sem_at (fd := a_freed_by) rfl]
  simp [runF, startE, a_freed_by, setS_eq]
  refine for_k (fun x => outF _ x = _) L.rows eR (I_frd L S)
    (by simp [eL]) ⟨0, .un, .un, .un, rfl, rfl, rfl, rfl, by omega, hr⟩ ?_ ?_
  · rintro r rem ρ ⟨acc, s3, s4, s5, h3, h4, h5, rfl, hs, hm⟩
    have hb := hm r (List.mem_cons_self ..)
    unfold smallR at hb
    rw [frd_cons] at hs
    simp [asg, eR, setS_eq, h3, h4, h5]
    rw [lc_all (rngI r.1 (r.2.1 + 1)) .int (fun p => .bool (decide (p ∈ S)))]
    · have hg : biD .all [.list ((rngI r.1 (r.2.1 + 1)).map fun p => .bool (decide (p ∈ S)))] = some (.v (.bool (gone S r))) := m_all _ _
      simp [hg]
      cases c : gone S r
      · rw [c, if_neg Bool.false_ne_true] at hs
        simp
        exact ⟨_, _, _, _, rfl, rfl, rfl, rfl, by omega, fun a ha => hm a (List.mem_cons_of_mem _ ha)⟩
      · rw [c, if_pos rfl] at hs
        simp [setS_eq]
        exact ⟨_, _, _, _, rfl, rfl, rfl, rfl, by omega, fun a ha => hm a (List.mem_cons_of_mem _ ha)⟩
    · simp [rngD_eq]
      exact rngOk_k (by omega) (by omega) (by omega) (by omega)
    · simp [freeE_cons]
    · intro a ha
      exact ⟨_, by simp [asg, wipeE, setS_eq]; rfl, by simp [wipeE], by simp [eT]⟩
  · rintro ρ' ⟨acc, s3, s4, s5, h3, h4, h5, rfl, hs, _⟩
    have : frd S [] = 0 := rfl
    rw [this] at hs
    simp at hs ⊢
    exact hs
theorem lay_small {L : Lay} (h : layB L = true) : ∀ r ∈ L.rows, smallR r := by
  unfold layB at h
  simp only [Bool.and_eq_true, List.all_eq_true] at h
  intro r hr
  have := h.2.1 r hr
  have c := h.1
  unfold rowB inB at this
  unfold inB at c
  simp only [Bool.and_eq_true, decide_eq_true_eq] at this c
  unfold smallR
  omega
theorem ok_freed (n : Nat) (L : Lay) (S : List Int) (hL : layB L = true) (hS : setB L.c S = true) : sem T (n+5) 8 [eL L, eT S] = .ret (.v (.int (frd S L.rows))) [] := by
  rw [sem_at (fd := a_freed) rfl]
  have e : ixD (eL L) (.int 0) = some (.int L.c) := by simp [eL]
  simp [runF, startE, a_freed, ok_require_layout _ L hL, e, ok_require_set _ _ S hS, ok_freed_by _ L S (lay_small hL)]
end Tx

namespace Tx
open PySem PySem.Spec Sn Mx
def Fq (s : Sl) : Prop := Frs (some s) = true ∧ Fre (some s) = true
structure I_red (L : Lay) (S : List Int) (rem : List Rw) (ρ : En) : Prop where
  ex : ∃ t s4 s6 s7 s8 s9 s10, ρ = [.v (.tuple [.int L.c, .tuple (L.rows.map eR)]), .v (eT S), .v (.int L.c), .v (.tuple (L.rows.map eR)), s4, .ow false (.t (eTb t)), s6, s7, s8, s9, s10, .un, .un] ∧
    (s4 = .ow false (.l ((leftOf S L.c).map .int)) ∨ s4 = .v (.list ((leftOf S L.c).map .int))) ∧
    Frs (some s6) = true ∧ Frs (some s7) = true ∧ Frs (some s8) = true ∧ Frs (some s9) = true ∧ Fq s10 ∧
    addAll t (mapK (ph S) (itm rem)) = tblOf (mapK (ph S) (itm L.rows)) ∧ t.length + rem.length ≤ 1000
  ok : ∀ r ∈ rem, goodR L.c r
theorem mapK_cons (φ : K2 → Option K2) (q : K2 × Int) (r : List (K2 × Int)) : mapK φ (q :: r) = (match φ q.1 with | none => mapK φ r | some k => (k, q.2) :: mapK φ r) := by
  unfold mapK
  rw [List.filterMap_cons]
  cases φ q.1 <;> rfl
theorem ends_some : ∀ {l : List Int} {k : K2}, ends l = some k → l ≠ [] ∧ ixD (.list (l.map .int)) (.int 0) = some (.int k.1) ∧ ixD (.list (l.map .int)) (.int (-1)) = some (.int k.2)
  | [], _, h => by cases h
  | a :: r, k, h => by
    unfold ends at h
    cases h
    refine ⟨by simp, by simp, ?_⟩
    rw [ix_last _ (by simp), List.getLast_map]
theorem ends_none : ∀ {l : List Int}, ends l = none → l = []
  | [], _ => rfl
  | a :: r, h => by cases h
theorem ok_reduced (n : Nat) (L : Lay) (S : List Int) (hc : 0 ≤ L.c ∧ L.c ≤ 1000) (hr : ∀ r ∈ L.rows, goodR L.c r) (hl : L.rows.length ≤ 1000) :
    sem T (n+1) 9 [eL L, eT S] = .ret (.v (eL ⟨(leftOf S L.c).length - 1, redRows S L.rows⟩)) [] := by
  rw [sem_at (fd := a_reduced) rfl]
  simp [runF, startE, a_reduced, eL, asg, setS_eq]
  rw [lc_map (rngI 0 (L.c + 1)) .int (fun p => !decide (p ∈ S)) .int]
  · have e1 : List.map PyData.int (List.filter (fun p => !decide (p ∈ S)) (rngI 0 (L.c + 1))) = (leftOf S L.c).map .int := rfl
    simp [asg, setS_eq, e1]
    refine for_k (fun x => outF _ x = _) L.rows eR (I_red L S)
      (by simp) ⟨⟨[], _, .un, .un, .un, .un, .un, rfl, .inl rfl, rfl, rfl, rfl, rfl, ⟨rfl, rfl⟩, rfl, by simp; exact hl⟩, hr⟩ ?_ ?_
    · rintro r rem ρ ⟨⟨t, s4, s6, s7, s8, s9, s10, rfl, h4, h6, h7, h8, h9, ⟨h10, h10'⟩, ht, hn⟩, hm⟩
      obtain ⟨g1, g2, g3⟩ := hm r (List.mem_cons_self ..)
      have he := ends_held S (c := L.c) (k := key r) g1 g2 g3
      have hitm : itm (r :: rem) = (key r, r.2.2) :: itm rem := rfl
      rw [hitm, mapK_cons] at ht
      simp only [List.length_cons] at hn
      simp [asg, eR, setS_eq, h6, h7, h8]
      rw [lc_mapE [.v (.tuple [.int L.c, .tuple (L.rows.map eR)]), .v (eT S), .v (.int L.c), .v (.tuple (L.rows.map eR)), .v (.list ((leftOf S L.c).map .int)), .ow false (.t (eTb t)), .v (.int r.1), .v (.int r.2.1), .v (.int r.2.2), s9, s10, .un, .un]
        (enumI 0 (leftOf S L.c)) (fun q => .tuple [.int q.1, .int q.2]) (fun q => decide (r.1 ≤ q.2) && decide (q.2 ≤ r.2.1)) (fun q => .int q.1)]
      · have e2 : List.map (fun q : Int × Int => PyData.int q.1) (List.filter (fun q => decide (r.1 ≤ q.2) && decide (q.2 ≤ r.2.1)) (enumI 0 (leftOf S L.c))) = (held (leftOf S L.c) r.1 r.2.1).map .int := by
          unfold held; rw [List.map_map]; rfl
        have he' : ends (held (leftOf S L.c) r.1 r.2.1) = ph S (key r) := he
        simp [setS_eq, h9, e2]
        cases hp : ph S (key r) with
        | none =>
          rw [hp] at he' ht
          have hz := ends_none he'
          simp [hz]
          exact ⟨⟨t, _, _, _, _, _, s10, rfl, .inr rfl, rfl, rfl, rfl, rfl, ⟨h10, h10'⟩, ht, by omega⟩, fun a ha => hm a (List.mem_cons_of_mem _ ha)⟩
        | some k =>
          rw [hp] at he' ht
          obtain ⟨z1, z2, z3⟩ := ends_some he'
          have e3 : PyData.tuple [.int k.1, .int k.2] = eK k := rfl
          have e5 : (Option.map PyData.int (lookA t k)).getD (.int 0) = .int ((lookA t k).getD 0) := by cases lookA t k <;> rfl
          have e4 := putC_eTb k ((lookA t k).getD 0 + r.2.2) (t := t) (by unfold sizeLine; omega)
          simp [z1, z2, z3, setS_eq, h10, e3, e5, e4, sizeLine]
          exact ⟨⟨addA t k r.2.2, _, _, _, _, _, _, rfl, .inr rfl, rfl, rfl, rfl, rfl, ⟨rfl, rfl⟩, ht, by have := len_put t k ((lookA t k).getD 0 + r.2.2); unfold addA; omega⟩, fun a ha => hm a (List.mem_cons_of_mem _ ha)⟩
      · rcases h4 with rfl | rfl
        · simp [enumD_eq]
        · simp [enumD_eq]
      · simp [freeE_cons]
      · intro a ha
        exact ⟨_, by simp [asg, wipeE, setS_eq]; rfl, by simp [wipeE], by simp, fun _ => by simp⟩
    · rintro ρ' ⟨⟨t, s4, s6, s7, s8, s9, s10, rfl, h4, h6, h7, h8, h9, ⟨h10, h10'⟩, ht, hn⟩, _⟩
      have ht : t = tblOf (mapK (ph S) (itm L.rows)) := ht
      have hs := sort_keys (keysA t)
      have e6 : redRows S L.rows = ((keysA t).mergeSort kLe).map fun k => (k.1, k.2, (lookA t k).getD 0) := by rw [ht]; rfl
      have p := List.mergeSort_perm (keysA t) kLe
      have key4 : ∀ s4, (s4 = Sl.ow false (.l ((leftOf S L.c).map .int)) ∨ s4 = .v (.list ((leftOf S L.c).map .int))) → vS (some s4) = some (.list ((leftOf S L.c).map .int)) := fun s h => by rcases h with rfl | rfl <;> rfl
      have rest : ∀ s4, evE (sem T n) (.lc (.bin .add (.var 10) (.tup (.cons (.ix (.var 5) (.var 10)) .nil))) (.nm 10) (.seq (.bi .sorted (.cons (.var 5) .nil))) (.lit (.bool true)) [10])
          [.v (.tuple [.int L.c, .tuple (L.rows.map eR)]), .v (eT S), .v (.int L.c), .v (.tuple (L.rows.map eR)), s4, .ow false (.t (eTb t)), s6, s7, s8, s9, s10, .un, .un] =
          .ok (.nw (.l ((redRows S L.rows).map eR))) [.v (.tuple [.int L.c, .tuple (L.rows.map eR)]), .v (eT S), .v (.int L.c), .v (.tuple (L.rows.map eR)), s4, .ow false (.t (eTb t)), s6, s7, s8, s9, s10, .un, .un] := by
        intro s4
        rw [lc_all ((keysA t).mergeSort kLe) eK (fun k => eR (k.1, k.2, (lookA t k).getD 0))]
        · rw [e6, List.map_map]; rfl
        · simp
          rw [srtR_t (kvs := eTb t) (f := false) (by simp), keys_eTb, hs]
          simp
        · simp [freeE_cons, h10']
        · intro k hk
          have hk' : k ∈ keysA t := p.mem_iff.mp hk
          have e7 := ixT_k t k hk'
          have e8 : eK k = .tuple [.int k.1, .int k.2] := rfl
          refine ⟨_, by simp [asg, wipeE, setS_eq, h10]; rfl, by simp [wipeE], ?_⟩
          simp [e7]
          have e9 : binD .add (.tuple [.int k.1, .int k.2]) (.tuple [.int ((lookA t k).getD 0)]) = some (.v (.tuple [.int k.1, .int k.2, .int ((lookA t k).getD 0)])) := add_tt _ _ (by simp [sizeLine])
          simp [e8, sizeLine, eR, e9]
      rcases h4 with rfl | rfl
      · simp [rest, sizeLine, eL]
      · simp [rest, sizeLine, eL]
  · simp [rngD_eq]
    exact rngOk_k (by omega) (by omega) (by omega) (by omega)
  · simp [freeE_cons]
  · intro a ha
    exact ⟨_, by simp [asg, wipeE, setS_eq]; rfl, by simp [wipeE], by simp [eT], fun _ => by simp⟩
end Tx

namespace Tx
open PySem PySem.Spec Sn Mx
theorem lay_ok {L : Lay} (h : WL L) : layB L = true := by
  unfold layB
  rw [Bool.and_eq_true, Bool.and_eq_true]
  refine ⟨by unfold inB; have := h.c0; have := h.c1; simp; omega, ?_, ?_⟩
  · rw [List.all_eq_true]
    intro r hr
    have g := h.good r hr
    unfold goodR at g
    have := h.pos r hr
    have := (le_tot h.pos).2 r hr
    have := h.tot
    unfold rowB inB
    simp
    omega
  · rw [adj_pw (lt := kLt) (fun a b c h1 h2 => kLt_trans h1 h2), List.pairwise_map]
    exact h.srt
theorem set_ok {c : Int} {S : List Int} (h : VS c S) : setB c S = true := by
  unfold setB
  rw [Bool.and_eq_true, List.all_eq_true]
  refine ⟨fun v hv => ?_, ?_⟩
  · have := h.mem v hv
    unfold inB; simp; omega
  · rw [adj_pw (fun a b c h1 h2 => by simp at *; omega)]
    exact h.srt.imp fun h => by simpa using h
theorem freed_w (n : Nat) {L : Lay} {S : List Int} (h : WL L) (hS : VS L.c S) : sem T (n+5) 8 [eL L, eT S] = .ret (.v (.int (frd S L.rows))) [] :=
  ok_freed n L S (lay_ok h) (set_ok hS)
theorem after_w (n : Nat) {L : Lay} {S : List Int} (h : WL L) (hS : VS L.c S) : sem T (n+5) 10 [eL L, eT S] = .ret (.v (eL (red L S))) [] := by
  rw [sem_at (fd := a_layout_after) rfl]
  have e : ixD (eL L) (.int 0) = some (.int L.c) := by simp [eL]
  have := h.c0
  have := h.c1
  simp [runF, startE, a_layout_after, ok_require_layout _ L (lay_ok h), e, ok_require_set _ _ S (set_ok hS), ok_reduced _ L S ⟨by omega, by omega⟩ h.good h.len]
  rfl
theorem pick_ok (n : Nat) {io : List D} {size : Int} (h : Src io) (h0 : 0 < size) (h1 : size < 1073741824) : ∃ v io', 0 ≤ v ∧ v < size ∧ Src io' ∧ sem T (n+1) 39 [.list io, .int size] = .ret (.v (.int v)) io' := by
  obtain ⟨a, b, c, rfl, hb, hb2, hc, hc2⟩ := h
  rw [sem_at (fd := a__law_pick) rfl]
  by_cases ha : 0 < a
  · refine ⟨a % size, [.int (a / size), .int b, .int c], Int.emod_nonneg _ (by omega), Int.emod_lt_of_pos _ h0, ⟨_, _, _, rfl, hb, hb2, hc, hc2⟩, ?_⟩
    simp [runF, startE, a__law_pick, ha, setS_eq, mod_ii h0, div_ii h0 h1, put_l0]
  · have hm := Int.emod_nonneg (b * 48271) (show c ≠ 0 by omega)
    have hm2 := Int.emod_lt_of_pos (b * 48271) hc
    refine ⟨((b * 48271 % c + 1) * (b * 48271 % c + 1)) % 2147483423 / 7 % size, [.int a, .int (b * 48271 % c + 1), .int c], Int.emod_nonneg _ (by omega), Int.emod_lt_of_pos _ h0, ⟨_, _, _, rfl, by omega, by omega, hc, hc2⟩, ?_⟩
    have q1 : mulOk b 48271 = true := mulOk_r (by omega) (by omega)
    have q2 : mulOk (b * 48271 % c + 1) (b * 48271 % c + 1) = true := mulOk_r (by omega) (by omega)
    simp [runF, startE, a__law_pick, ha, setS_eq, mul_ii q1, mul_ii q2, mod_ii h0, mod_ii hc, mod_ii (show (0 : Int) < 2147483423 by omega), div_ii (show (0 : Int) < 7 by omega) (by omega), put_l1]

theorem pw18 : binD .pow (.int 10) (.int 18) = some (.v (.int 1000000000000000000)) := by
    show (if powOk 10 18 = true then some (R.v (.int (10 ^ (18 : Int).toNat))) else none) = _
    rw [if_pos (by decide +kernel), show (18 : Int).toNat = 18 from rfl, show (10 : Int) ^ 18 = 1000000000000000000 by decide +kernel]
theorem hp8 : ∀ j : Int, 0 ≤ j → j < 8 → ∃ c : Int, ixD (.list [.int 2147483647, .int 2147483629, .int 2147483587, .int 2147483579, .int 2147483563, .int 2147483549, .int 2147483543, .int 2147483497]) (.int j) = some (.int c) ∧ 0 < c ∧ c < 4294967296 := by
    intro j h0 h1
    have : j = 0 ∨ j = 1 ∨ j = 2 ∨ j = 3 ∨ j = 4 ∨ j = 5 ∨ j = 6 ∨ j = 7 := by omega
    rcases this with rfl | rfl | rfl | rfl | rfl | rfl | rfl | rfl <;> exact ⟨_, rfl, by omega, by omega⟩
theorem source_ok (n : Nat) (ns : List Int) (k : Nat) (hk : k < 1000) : ∃ io, Src io ∧ sem T (n+1) 38 [scr (ns.map .int), .int k] = .ret (.nw (.l io)) [] := by
  have pw := pw18
  have hp := hp8
  obtain ⟨c, hc, hc1, hc2⟩ := hp ((k : Int) % 8) (by omega) (by omega)
  have len : biD .len [scr (ns.map .int)] = some (.v (.int ns.length)) := by
    show some (R.v (.int ((ns.map PyData.int).length : Nat))) = _
    rw [List.length_map]
  have get : ∀ h : k < ns.length, ixD (scr (ns.map .int)) (.int k) = some (.int ns[k]) := fun h => by
    show L2.atI (ns.map PyData.int) (k : Int) = _
    rw [atI_nat _ _ (by rw [List.length_map]; exact h), List.getElem_map]
  have m1 : ∀ x : Int, mulOk x (48271 + 2 * (k : Int)) = true := fun x => mulOk_r (by omega) (by omega)
  have m2 : mulOk 2 (k : Int) = true := mulOk_l (by omega) (by omega)
  obtain ⟨cell, hcell⟩ : ∃ cell : Int, evS (sem T n) (.ite (.cmp (.var 1) (.one .lt (.bi .len (.cons (.var 0) .nil)))) (.seq (.set 2 (.ix (.var 0) (.var 1))) .skip) .skip) [.v (scr (ns.map .int)), .v (.int k), .v (.int 0), .un, .un] = .ok .nx [.v (scr (ns.map .int)), .v (.int k), .v (.int cell), .un, .un] := by
    by_cases h : k < ns.length
    · exact ⟨ns[k], by simp [setS_eq, len, h, get h]⟩
    · exact ⟨0, by simp [setS_eq, len, h]⟩
  have s1 := Int.emod_nonneg ((cell % 2147483489 + 1) * (48271 + 2 * (k : Int))) (show (2147483489 : Int) ≠ 0 by omega)
  have s2 := Int.emod_lt_of_pos ((cell % 2147483489 + 1) * (48271 + 2 * (k : Int))) (show (0 : Int) < 2147483489 by omega)
  obtain ⟨s, hs⟩ : ∃ s, s = (cell % 2147483489 + 1) * (48271 + 2 * (k : Int)) % 2147483489 := ⟨_, rfl⟩
  rw [← hs] at s1 s2
  have t1 := Int.emod_nonneg (s * s) (show (2147483477 : Int) ≠ 0 by omega)
  have t2 := Int.emod_lt_of_pos (s * s) (show (0 : Int) < 2147483477 by omega)
  have m3 : mulOk s s = true := mulOk_r (by omega) (by omega)
  obtain ⟨z, hz⟩ : ∃ z : List D, z = [.int 2147483647, .int 2147483629, .int 2147483587, .int 2147483579, .int 2147483563, .int 2147483549, .int 2147483543, .int 2147483497] := ⟨_, rfl⟩
  have e3 : ∀ ρ : En, evE (sem T n) (.lst (.cons (.lit (.int 2147483647)) (.cons (.lit (.int 2147483629)) (.cons (.lit (.int 2147483587)) (.cons (.lit (.int 2147483579)) (.cons (.lit (.int 2147483563)) (.cons (.lit (.int 2147483549)) (.cons (.lit (.int 2147483543)) (.cons (.lit (.int 2147483497)) .nil))))))))) ρ = .ok (.nw (.l z)) ρ := by
    intro ρ; rw [hz]; simp
  rw [← hz] at hc
  refine ⟨if 1000000000000000000 ≤ cell then [.int cell, .int (s * s % 2147483477 + k + 1), .int c] else [.int 0, .int (s * s % 2147483477 + k + 1), .int c], ?_, ?_⟩
  · split <;> exact ⟨_, _, _, rfl, by omega, by omega, hc1, hc2⟩
  rw [sem_at (fd := a__law_source) rfl]
  show outF a__law_source (evS (sem T n) a__law_source.body [.v (scr (ns.map .int)), .v (.int k), .un, .un, .un]) = _
  unfold a__law_source
  dsimp only
  rw [seq_nx (ρ' := [.v (scr (ns.map .int)), .v (.int k), .v (.int 0), .un, .un]) (by simp [setS_eq])]
  rw [seq_nx hcell]
  rw [seq_nx (ρ' := [.v (scr (ns.map .int)), .v (.int k), .v (.int cell), .ow false (.l z), .un]) (by rw [s_set, e3]; simp [setS_eq])]
  rw [seq_nx (ρ' := [.v (scr (ns.map .int)), .v (.int k), .v (.int cell), .ow false (.l z), .v (.int s)]) (by simp [setS_eq, mod_ii, mul_ii (m1 _), mul_ii m2, hs])]
  rw [seq_nx (ρ' := [.v (scr (ns.map .int)), .v (.int k), .v (.int cell), .ow false (.l z), .v (.int (s * s % 2147483477 + k + 1))]) (by simp [setS_eq, mod_ii, mul_ii m3])]
  by_cases hb : 1000000000000000000 ≤ cell
  · simp [mod_ii, pw, hb, hc]
  · simp [mod_ii, pw, hb, hc]
end Tx

namespace Tx
open PySem PySem.Spec Sn Mx
theorem lc_allE {α : Type} {Φ : Nat → List D → Out} {ρ : En} {elt : Ex} {tg : Tg} {it : Sn.It} {own : List Nat} (ρ' : En) (l : List α) (enc : α → D) (g : α → D) (h1 : evI Φ it ρ = .ok (l.map enc) ρ') (h2 : freeE ρ' own = true)
    (h3 : ∀ a ∈ l, ∃ ρ1, asg tg (enc a) (wipeE ρ' own) = .ok () ρ1 ∧ wipeE ρ1 own = wipeE ρ' own ∧ bnd (evE Φ elt ρ1) frz = .ok (g a) ρ1) :
    evE Φ (.lc elt tg it (.lit (.bool true)) own) ρ = .ok (.nw (.l (l.map g))) ρ' := by
  have := lc_mapE (Φ := Φ) (ρ := ρ) (elt := elt) (cd := .lit (.bool true)) (tg := tg) (it := it) (own := own) ρ' l enc (fun _ => true) g h1 h2 fun a ha => by
    obtain ⟨ρ1, q1, q2, q3⟩ := h3 a ha
    exact ⟨ρ1, q1, q2, by simp, fun _ => q3⟩
  rw [this, List.filter_eq_self.mpr (fun _ _ => rfl)]
def I_obo (L : Lay) (S : List Int) (m : Nat) (ρ : En) : Prop := ∃ io Lc Sc tt s5, Src io ∧ ρ = [.ow true (.l io), .v (eL Lc), .v (eT S), .ow false (.l (Sc.map .int)), .v (.int tt), s5, .un] ∧ Frs (some s5) = true ∧
  WL Lc ∧ VS Lc.c Sc ∧ Sc.length = m ∧ tt + frd Sc Lc.rows = frd S L.rows ∧ red Lc Sc = red L S
def J_obo (L : Lay) (S : List Int) (ρ : En) : Prop := ∃ io s3 s5, Src io ∧ ρ = [.ow true (.l io), .v (eL (red L S)), .v (eT S), s3, .v (.int (frd S L.rows)), s5, .un]
theorem int_b (b : Bool) : biD .int [.bool b] = some (.v (.int (if b = true then 1 else 0))) := rfl
theorem asc_len {c : Int} : ∀ (S : List Int) (lo : Int), (∀ v ∈ S, lo ≤ v ∧ v < c) → S.Pairwise (fun a b => a < b) → S.length ≤ (c - lo).toNat
  | [], _, _, _ => Nat.zero_le _
  | a :: r, lo, h, s => by
    have s' := List.pairwise_cons.mp s
    have ha := h a (List.mem_cons_self ..)
    have := asc_len r (a + 1) (fun v hv => ⟨by have := s'.1 v hv; omega, (h v (List.mem_cons_of_mem _ hv)).2⟩) s'.2
    rw [List.length_cons]; omega
theorem vs_len {c : Int} {S : List Int} (h : VS c S) (hc : c ≤ 10) : S.length ≤ 10 := by
  have := asc_len S 0 h.mem h.srt
  omega
theorem erase_map {α β : Type} (f : α → β) : ∀ (l : List α) (j : Nat), (l.map f).eraseIdx j = (l.eraseIdx j).map f
  | [], _ => rfl
  | _ :: _, 0 => rfl
  | a :: l, j + 1 => by rw [List.map_cons, List.eraseIdx_cons_succ, List.eraseIdx_cons_succ, List.map_cons, erase_map f l j]
theorem obo_ok (n : Nat) {L : Lay} {S : List Int} {io : List D} (hL : WL L) (hS : VS L.c S) (hio : Src io) : ∃ io', Src io' ∧
    sem T (n+6) 60 [.list io, eL L, eT S] = .ret (.v (.tuple [.int (frd S L.rows), eL (red L S)])) io' := by
  rw [sem_at (fd := a__law_one_by_one) rfl]
  show ∃ io', Src io' ∧ outF a__law_one_by_one (evS (sem T (n+5)) a__law_one_by_one.body [.ow true (.l io), .v (eL L), .v (eT S), .un, .un, .un, .un]) = _
  unfold a__law_one_by_one
  dsimp only
  have hlen := vs_len hS hL.c1
  rw [seq_nx (ρ' := [.ow true (.l io), .v (eL L), .v (eT S), .ow false (.l (S.map .int)), .v (.int 0), .un, .un]) (by simp [eT, setS_eq])]
  rw [s_seq]
  refine whl_k (fun x => ∃ io', Src io' ∧ outF _ x = .ret _ io') (I_obo L S) (J_obo L S) S.length (by omega) ⟨io, L, S, 0, .un, hio, rfl, rfl, hL, hS, rfl, by omega, rfl⟩ ?_ ?_
  · rintro m ρ ⟨io, Lc, Sc, tt, s5, hio, rfl, h5, hw, hv, hm, hf, hr⟩
    by_cases hz : Sc = []
    · subst hz
      left
      rw [red_none hw] at hr
      rw [frd_none hw] at hf
      refine ⟨[.ow true (.l io), .v (eL Lc), .v (eT S), .ow false (.l []), .v (.int tt), s5, .un], ?_, io, .ow false (.l []), s5, hio, by rw [← hr, ← hf]; simp⟩
      have := ne_nil []
      simp only [List.map_nil, decide_true, Bool.not_true] at this
      simp [this]
    · right
      refine ⟨[.ow true (.l io), .v (eL Lc), .v (eT S), .ow false (.l (Sc.map .int)), .v (.int tt), s5, .un], by simp [hz], ?_⟩
      have hpos : 0 < Sc.length := List.length_pos_iff.mpr hz
      have hle := vs_len hv hw.c1
      obtain ⟨v, io2, q1, q2, q3, q4⟩ := pick_ok (n+4) hio (size := Sc.length) (by omega) (by omega)
      obtain ⟨j, rfl⟩ : ∃ j : Nat, v = j := ⟨v.toNat, by omega⟩
      have hj : j < Sc.length := by omega
      obtain ⟨p, hp⟩ : ∃ p, p = Sc[j] := ⟨_, rfl⟩
      have hget : Sc[j]? = some p := by rw [List.getElem?_eq_getElem hj, hp]
      have hpm := hv.mem p (List.mem_of_getElem? hget)
      have hvp := VS.one hpm.1 hpm.2
      obtain ⟨r1, r2, r3⟩ := red_step hw hv hget
      have hix : L2.ixN (Sc.map PyData.int).length (j : Int) = some j := by
        unfold L2.ixN
        rw [List.length_map, if_pos (by omega), if_pos (by omega)]; rfl
      have hd : (Sc.map PyData.int)[j]? = some (.int p) := by rw [List.getElem?_map, hget]; rfl
      have er : (Sc.map PyData.int).eraseIdx j = (Sc.eraseIdx j).map .int := erase_map _ _ _
      have epop : ∀ ρ : En, poR 3 (.v (.int j)) (some (.ow false (.l (Sc.map .int)))) ρ = .ok (.v (.int p)) (ρ.set 3 (.ow false (.l ((Sc.eraseIdx j).map .int)))) := fun ρ => by rw [poR_ow hix hd, er]
      have et : eT [p] = .tuple [.int p] := rfl
      have f1 := freed_w n hw hvp
      have f2 := after_w n hw hvp
      rw [et] at f1 f2
      have st1 : evS (sem T (n+5)) (.set 5 (.pop 3 (.callIO 39 0 (.cons (.bi .len (.cons (.var 3) .nil)) .nil)))) [.ow true (.l io), .v (eL Lc), .v (eT S), .ow false (.l (Sc.map .int)), .v (.int tt), s5, .un] =
          .ok .nx [.ow true (.l io2), .v (eL Lc), .v (eT S), .ow false (.l ((Sc.eraseIdx j).map .int)), .v (.int tt), .v (.int p), .un] := by
        simp [q4, epop, setS_eq, h5]
      have st2 : evS (sem T (n+5)) (.set 4 (.bin .add (.var 4) (.call 8 (.cons (.var 1) (.cons (.tup (.cons (.var 5) .nil)) .nil))))) [.ow true (.l io2), .v (eL Lc), .v (eT S), .ow false (.l ((Sc.eraseIdx j).map .int)), .v (.int tt), .v (.int p), .un] =
          .ok .nx [.ow true (.l io2), .v (eL Lc), .v (eT S), .ow false (.l ((Sc.eraseIdx j).map .int)), .v (.int (tt + frd [p] Lc.rows)), .v (.int p), .un] := by
        simp [f1, setS_eq]
      have st3 : evS (sem T (n+5)) (.set 1 (.call 10 (.cons (.var 1) (.cons (.tup (.cons (.var 5) .nil)) .nil)))) [.ow true (.l io2), .v (eL Lc), .v (eT S), .ow false (.l ((Sc.eraseIdx j).map .int)), .v (.int (tt + frd [p] Lc.rows)), .v (.int p), .un] =
          .ok .nx [.ow true (.l io2), .v (eL (red Lc [p])), .v (eT S), .ow false (.l ((Sc.eraseIdx j).map .int)), .v (.int (tt + frd [p] Lc.rows)), .v (.int p), .un] := by
        simp [f2, setS_eq]
      have st4 : evS (sem T (n+5)) (.set 3 (.lc (.bin .sub (.var 6) (.bi .int (.cons (.cmp (.var 6) (.one .gt (.var 5))) .nil))) (.nm 6) (.seq (.var 3)) (.lit (.bool true)) [6])) [.ow true (.l io2), .v (eL (red Lc [p])), .v (eT S), .ow false (.l ((Sc.eraseIdx j).map .int)), .v (.int (tt + frd [p] Lc.rows)), .v (.int p), .un] =
          .ok .nx [.ow true (.l io2), .v (eL (red Lc [p])), .v (eT S), .ow false (.l ((dropAt Sc j p).map .int)), .v (.int (tt + frd [p] Lc.rows)), .v (.int p), .un] := by
        rw [s_set, lc_allE [.ow true (.l io2), .v (eL (red Lc [p])), .v (eT S), .v (.list ((Sc.eraseIdx j).map .int)), .v (.int (tt + frd [p] Lc.rows)), .v (.int p), .un] (Sc.eraseIdx j) .int (fun o => .int (o - (if o > p then 1 else 0)))]
        · simp [setS_eq, dropAt]
        · simp
        · simp [freeE_cons]
        · intro a ha
          refine ⟨_, by simp [asg, wipeE, setS_eq]; rfl, by simp [wipeE], ?_⟩
          simp [int_b]
      refine ⟨_, (seq_nx st1).trans ((seq_nx st2).trans ((seq_nx st3).trans ((seq_nx st4).trans (s_skip)))), m - 1, by omega, io2, red Lc [p], dropAt Sc j p, _, _, q3, rfl, rfl, hw.red hvp, ?_, ?_, by omega, by rw [r2, hr]⟩
      · rw [r1]; exact dropAt_vs hv hget
      · unfold dropAt
        rw [List.length_map, List.length_eraseIdx, if_pos hj]; omega
  · rintro ρ' ⟨io, s3, s5, hio, rfl⟩
    refine ⟨io, hio, ?_⟩
    simp
end Tx

namespace Tx
open PySem PySem.Spec Sn Mx
theorem call_pick (n : Nat) {ρ : En} {e : Ex} {size : Int} {f : Bool} {i : Nat} {io : List D} (h0 : ρ[i]? = some (.ow f (.l io))) (he : evE (sem T (n+1)) e ρ = .ok (.v (.int size)) ρ) (hio : Src io) (q0 : 0 < size) (q1 : size < 1073741824) :
    ∃ v io', 0 ≤ v ∧ v < size ∧ Src io' ∧ evE (sem T (n+1)) (.callIO 39 i (.cons e .nil)) ρ = .ok (.v (.int v)) (ρ.set i (.ow f (.l io'))) := by
  obtain ⟨v, io', a, b, c, d⟩ := pick_ok n hio q0 q1
  exact ⟨v, io', a, b, c, by simp [h0, he, d]⟩
structure TOk (c : Int) (t : List (K2 × Int)) : Prop where
  nd : (keysA t).Nodup
  good : ∀ q ∈ t, 0 ≤ q.1.1 ∧ q.1.1 ≤ q.1.2 ∧ q.1.2 ≤ c
  val : ∀ q ∈ t, 1 ≤ q.2 ∧ q.2 ≤ 1000000000
theorem mem_put {t : List (K2 × Int)} {k : K2} {v : Int} {q : K2 × Int} (h : q ∈ putA t k v) : q ∈ t ∨ q = (k, v) := by
  unfold putA at h
  split at h
  · obtain ⟨p, hp, e⟩ := List.mem_map.mp h
    split at e
    · rename_i z; right; rw [← e, z]
    · left; rw [← e]; exact hp
  · rcases List.mem_append.mp h with h | h
    · exact .inl h
    · right; simpa using h
theorem TOk.put {c : Int} {t : List (K2 × Int)} (h : TOk c t) {k : K2} {v : Int} (hk : 0 ≤ k.1 ∧ k.1 ≤ k.2 ∧ k.2 ≤ c) (hv : 1 ≤ v ∧ v ≤ 1000000000) : TOk c (putA t k v) := by
  refine ⟨?_, fun q hq => ?_, fun q hq => ?_⟩
  · rw [keys_put]
    split
    · exact h.nd
    · rename_i z
      rw [List.nodup_append]
      refine ⟨h.nd, by simp, fun a ha b hb => ?_⟩
      simp at hb
      rw [hb]
      exact fun e => z (e ▸ ha)
  · rcases mem_put hq with hq | rfl
    · exact h.good q hq
    · exact hk
  · rcases mem_put hq with hq | rfl
    · exact h.val q hq
    · exact hv
theorem look_mem : ∀ {t : List (K2 × Int)} {k : K2} {v : Int}, lookA t k = some v → (k, v) ∈ t
  | [], _, _, h => by cases h
  | q :: r, k, v, h => by
    rw [lookA] at h
    split at h
    · rename_i e; cases h; rw [← e]; exact List.mem_cons_self ..
    · exact List.mem_cons_of_mem _ (look_mem h)
theorem mem_rows {t : List (K2 × Int)} {r : Rw} (h : r ∈ rowsOf t) : (key r, r.2.2) ∈ t := by
  unfold rowsOf at h
  obtain ⟨k, hk, rfl⟩ := List.mem_map.mp h
  obtain ⟨v, hv⟩ := look_some (List.mem_mergeSort.mp hk)
  show (k, (lookA t k).getD 0) ∈ t
  rw [hv]; exact look_mem hv
theorem tot_le : ∀ {rows : List Rw}, (∀ r ∈ rows, r.2.2 ≤ 1000000000) → tot rows ≤ 1000000000 * (rows.length : Int)
  | [], _ => by show (0 : Int) ≤ _; simp
  | r :: rem, h => by
    have := tot_le (rows := rem) fun a ha => h a (List.mem_cons_of_mem _ ha)
    have := h r (List.mem_cons_self ..)
    rw [tot_cons, List.length_cons]; omega
theorem TOk.lay {c : Int} {t : List (K2 × Int)} (h : TOk c t) (h0 : 0 ≤ c) (h1 : c ≤ 10) (hl : t.length ≤ 1000) : WL ⟨c, rowsOf t⟩ := by
  have hlen : (rowsOf t).length = t.length := by unfold rowsOf keysA; rw [List.length_map, List.length_mergeSort, List.length_map]
  refine ⟨h0, h1, fun r hr => h.good _ (mem_rows hr), fun r hr => (h.val _ (mem_rows hr)).1, ?_, ?_, ?_⟩
  · show Srt (rowsOf t)
    unfold rowsOf Srt
    rw [List.pairwise_map]
    exact sorted_lt h.nd
  · show (rowsOf t).length ≤ _
    omega
  · have := tot_le (rows := rowsOf t) fun r hr => (h.val _ (mem_rows hr)).2
    rw [hlen] at this
    show tot (rowsOf t) ≤ _
    omega
theorem TOk.le {c : Int} {t : List (K2 × Int)} (h : TOk c t) (hl : t.length ≤ 1000) : tot (rowsOf t) ≤ 1000000000000 := by
  have hlen : (rowsOf t).length = t.length := by unfold rowsOf keysA; rw [List.length_map, List.length_mergeSort, List.length_map]
  have := tot_le (rows := rowsOf t) fun r hr => (h.val _ (mem_rows hr)).2
  rw [hlen] at this
  omega
def I_lay (c most wide : Int) (rem : List Int) (ρ : En) : Prop := ∃ io t s3 s6 s7, Src io ∧ ρ = [.ow true (.l io), .v (.int most), .v (.int wide), s3, .v (.int c), .ow false (.t (eTb t)), s6, s7, .un] ∧ Frs (some s3) = true ∧ Frs (some s6) = true ∧ Frs (some s7) = true ∧
  TOk c t ∧ t.length + rem.length ≤ 50
theorem pw6 : binD .pow (.int 10) (.int 6) = some (.v (.int 1000000)) := by
  show (if powOk 10 6 = true then some (R.v (.int (10 ^ (6 : Int).toNat))) else none) = _
  rw [if_pos (by decide +kernel), show (6 : Int).toNat = 6 from rfl, show (10 : Int) ^ 6 = 1000000 by decide +kernel]
theorem pw9 : binD .pow (.int 10) (.int 9) = some (.v (.int 1000000000)) := by
  show (if powOk 10 9 = true then some (R.v (.int (10 ^ (9 : Int).toNat))) else none) = _
  rw [if_pos (by decide +kernel), show (9 : Int).toNat = 9 from rfl, show (10 : Int) ^ 9 = 1000000000 by decide +kernel]
theorem lay_drawn' (n : Nat) {io : List D} {most : Int} (hio : Src io) (h0 : 0 ≤ most) (h1 : most ≤ 10) : ∃ io' L, Src io' ∧ WL L ∧ L.c ≤ most ∧ tot L.rows ≤ 1000000000000 ∧ sem T (n+2) 45 [.list io, .int most] = .ret (.v (eL L)) io' := by
  rw [sem_at (fd := a__law_layout) rfl]
  show ∃ io' L, Src io' ∧ WL L ∧ L.c ≤ most ∧ tot L.rows ≤ 1000000000000 ∧ outF a__law_layout (evS (sem T (n+1)) a__law_layout.body [.ow true (.l io), .v (.int most), .un, .un, .un, .un, .un, .un, .un]) = _
  unfold a__law_layout
  dsimp only
  obtain ⟨c, io1, c0, c1, hio1, e1⟩ := call_pick n (ρ := [.ow true (.l io), .v (.int most), .un, .un, .un, .un, .un, .un, .un]) (i := 0) (e := .bin .add (.var 1) (.lit (.int 1))) (f := true) rfl (by simp; rfl) hio (by omega) (by omega)
  rw [seq_nx (ρ' := [.ow true (.l io1), .v (.int most), .un, .un, .v (.int c), .ow false (.t []), .un, .un, .un]) (by rw [s_par, rs_cons, e1]; simp [setS_eq])]
  obtain ⟨w, io2, w0, w1, hio2, e2⟩ := pick_ok n hio1 (size := 4) (by omega) (by omega)
  obtain ⟨wide, q0, q1, q2⟩ : ∃ wide : Int, 1 ≤ wide ∧ wide ≤ 1000000000 ∧ ixD (.list [.int 3, .int 12, .int 1000000, .int 1000000000]) (.int w) = some (.int wide) := by
    have : w = 0 ∨ w = 1 ∨ w = 2 ∨ w = 3 := by omega
    rcases this with rfl | rfl | rfl | rfl
    · exact ⟨3, by omega, by omega, rfl⟩
    · exact ⟨12, by omega, by omega, rfl⟩
    · exact ⟨1000000, by omega, by omega, rfl⟩
    · exact ⟨1000000000, by omega, by omega, rfl⟩
  rw [seq_nx (ρ' := [.ow true (.l io2), .v (.int most), .v (.int wide), .un, .v (.int c), .ow false (.t []), .un, .un, .un]) (by simp [e2, setS_eq, q2, pw6, pw9])]
  have m4 : mulOk 4 c = true := mulOk_l (by omega) (by omega)
  obtain ⟨k, io3, k0, k1, hio3, e3⟩ := pick_ok n hio2 (size := 4 * c + 3) (by omega) (by omega)
  rw [s_seq]
  have hk : (rngI 0 k).length = k.toNat := by unfold rngI; rw [List.length_map, List.length_range]; congr 1; omega
  have hev : evI (sem T (n+1)) (.rng (.lit (.int 0)) (.callIO 39 0 (.cons (.bin .add (.bin .mul (.lit (.int 4)) (.var 4)) (.lit (.int 3))) .nil))) [.ow true (.l io2), .v (.int most), .v (.int wide), .un, .v (.int c), .ow false (.t []), .un, .un, .un] =
      .ok ((rngI 0 k).map .int) [.ow true (.l io3), .v (.int most), .v (.int wide), .un, .v (.int c), .ow false (.t []), .un, .un, .un] := by
    simp [mul_ii m4, e3, rngD_eq]
    exact rngOk_k (by omega) (by omega) (by omega) (by omega)
  obtain ⟨ρ', e, io, t, s3, s6, s7, hio, rfl, h3, h6, h7, ht, hl⟩ := forL_go (tg := .nm 3) (b := evS (sem T (n+1)) (.seq (.set 6 (.callIO 39 0 (.cons (.bin .add (.var 4) (.lit (.int 1))) .nil)))
    (.seq (.set 7 (.ix (.lst (.cons (.var 6) (.cons (.var 4) (.cons (.bin .add (.var 6) (.callIO 39 0 (.cons (.bin .sub (.bin .add (.var 4) (.lit (.int 1))) (.var 6)) .nil))) .nil)))) (.callIO 39 0 (.cons (.lit (.int 3)) .nil))))
    (.seq (.put 5 (.tup (.cons (.var 6) (.cons (.var 7) .nil))) (.bin .add (.lit (.int 1)) (.callIO 39 0 (.cons (.var 2) .nil))))
    .skip)))) PyData.int (I_lay c most wide) (by
      rintro a rem ρ ⟨io, t, s3, s6, s7, hio, rfl, h3, h6, h7, ht, hl⟩
      refine ⟨_, by simp [asg, setS_eq, h3]; rfl, ?_⟩
      obtain ⟨f, ja, f0, f1, hja, ea⟩ := pick_ok n hio (size := c + 1) (by omega) (by omega)
      obtain ⟨x, jb, x0, x1, hjb, eb⟩ := pick_ok n hja (size := c + 1 - f) (by omega) (by omega)
      obtain ⟨y, jc, y0, y1, hjc, ec⟩ := pick_ok n hjb (size := 3) (by omega) (by omega)
      obtain ⟨z, jd, z0, z1, hjd, ed⟩ := pick_ok n hjc (size := wide) (by omega) (by omega)
      obtain ⟨l, l0, l1, l2⟩ : ∃ l : Int, f ≤ l ∧ l ≤ c ∧ ixD (.list [.int f, .int c, .int (f + x)]) (.int y) = some (.int l) := by
        have : y = 0 ∨ y = 1 ∨ y = 2 := by omega
        rcases this with rfl | rfl | rfl
        · exact ⟨f, by omega, by omega, rfl⟩
        · exact ⟨c, by omega, by omega, rfl⟩
        · exact ⟨f + x, by omega, by omega, rfl⟩
      have st1 : evS (sem T (n+1)) (.set 6 (.callIO 39 0 (.cons (.bin .add (.var 4) (.lit (.int 1))) .nil))) [.ow true (.l io), .v (.int most), .v (.int wide), .v (.int a), .v (.int c), .ow false (.t (eTb t)), s6, s7, .un] =
          .ok .nx [.ow true (.l ja), .v (.int most), .v (.int wide), .v (.int a), .v (.int c), .ow false (.t (eTb t)), .v (.int f), s7, .un] := by
        simp [ea, setS_eq, h6]
      have st2 : evS (sem T (n+1)) (.set 7 (.ix (.lst (.cons (.var 6) (.cons (.var 4) (.cons (.bin .add (.var 6) (.callIO 39 0 (.cons (.bin .sub (.bin .add (.var 4) (.lit (.int 1))) (.var 6)) .nil))) .nil)))) (.callIO 39 0 (.cons (.lit (.int 3)) .nil)))) [.ow true (.l ja), .v (.int most), .v (.int wide), .v (.int a), .v (.int c), .ow false (.t (eTb t)), .v (.int f), s7, .un] =
          .ok .nx [.ow true (.l jc), .v (.int most), .v (.int wide), .v (.int a), .v (.int c), .ow false (.t (eTb t)), .v (.int f), .v (.int l), .un] := by
        simp [eb, ec, l2, setS_eq, h7]
      have ek : PyData.tuple [.int f, .int l] = eK (f, l) := rfl
      have hs : t.length < sizeLine := by simp only [List.length_cons] at hl; unfold sizeLine; omega
      have st3 : evS (sem T (n+1)) (.put 5 (.tup (.cons (.var 6) (.cons (.var 7) .nil))) (.bin .add (.lit (.int 1)) (.callIO 39 0 (.cons (.var 2) .nil)))) [.ow true (.l jc), .v (.int most), .v (.int wide), .v (.int a), .v (.int c), .ow false (.t (eTb t)), .v (.int f), .v (.int l), .un] =
          .ok .nx [.ow true (.l jd), .v (.int most), .v (.int wide), .v (.int a), .v (.int c), .ow false (.t (eTb (putA t (f, l) (1 + z)))), .v (.int f), .v (.int l), .un] := by
        simp [ed, ek, putC_eTb (f, l) (1 + z) hs]
      refine ⟨_, (seq_nx st1).trans ((seq_nx st2).trans ((seq_nx st3).trans s_skip)), jd, _, _, _, _, hjd, rfl, rfl, rfl, rfl, ht.put ⟨f0, l0, l1⟩ ⟨by omega, by omega⟩, ?_⟩
      have := len_put t (f, l) (1 + z)
      simp only [List.length_cons] at hl
      omega) (rngI 0 k) [.ow true (.l io3), .v (.int most), .v (.int wide), .un, .v (.int c), .ow false (.t []), .un, .un, .un] ⟨io3, [], .un, .un, .un, hio3, rfl, rfl, rfl, rfl, ⟨List.Pairwise.nil, (fun _ h => by cases h), (fun _ h => by cases h)⟩, by rw [hk]; simp; omega⟩
  rw [s_for, hev]
  simp only [bnd_ok, e, sqF_nx]
  refine ⟨io, ⟨c, rowsOf t⟩, hio, ht.lay c0 (by omega) (by simp at hl; omega), by show c ≤ most; omega, ht.le (by simp at hl; omega), ?_⟩
  have p := List.mergeSort_perm (keysA t) kLe
  simp
  rw [lc_all ((keysA t).mergeSort kLe) eK (fun k => eR (k.1, k.2, (lookA t k).getD 0))]
  · have er : ((keysA t).mergeSort kLe).map (fun k => eR (k.1, k.2, (lookA t k).getD 0)) = (rowsOf t).map eR := by unfold rowsOf; rw [List.map_map]; rfl
    simp [er, eL]
  · simp
    rw [srtR_t (kvs := eTb t) (f := false) (by simp), keys_eTb, sort_keys]
    simp
  · simp [freeE_cons]
  · intro k hk
    have e7 := ixT_k t k (p.mem_iff.mp hk)
    have e8 : eK k = .tuple [.int k.1, .int k.2] := rfl
    have e9 : binD .add (.tuple [.int k.1, .int k.2]) (.tuple [.int ((lookA t k).getD 0)]) = some (.v (.tuple [.int k.1, .int k.2, .int ((lookA t k).getD 0)])) := add_tt _ _ (by simp)
    refine ⟨_, by simp [asg, wipeE, setS_eq]; rfl, by simp [wipeE], ?_⟩
    simp [e7]
    simp [e8, eR, e9]
theorem lay_drawn (n : Nat) {io : List D} {most : Int} (hio : Src io) (h0 : 0 ≤ most) (h1 : most ≤ 10) : ∃ io' L, Src io' ∧ WL L ∧ L.c ≤ most ∧ sem T (n+2) 45 [.list io, .int most] = .ret (.v (eL L)) io' := by
  obtain ⟨io', L, a, b, c, _, d⟩ := lay_drawn' n hio h0 h1
  exact ⟨io', L, a, b, c, d⟩
end Tx

namespace Tx
open PySem PySem.Spec Sn Mx
theorem rngI_asc (a b : Int) : (rngI a b).Pairwise fun x y => x < y := by
  unfold rngI
  rw [List.pairwise_map]
  exact List.pairwise_lt_range.imp fun h => by omega
theorem sub_vs {c : Int} {R : List Int} (h : R.Sublist (rngI 0 c)) : VS c R :=
  ⟨fun v hv => by have := mem_rngI.mp (h.subset hv); omega, (rngI_asc 0 c).sublist h⟩
theorem set_loop (n : Nat) {count wide : Int} (w0 : 1 ≤ wide) (w1 : wide ≤ 3) : ∀ (l : List Int) (acc : List D) (io : List D) (s3 : Sl), Src io → ∃ (io' : List D) (R : List Int) (s3' : Sl), Src io' ∧ R.Sublist l ∧
    lcL [3] (.nm 3) (fun ρ => bnd (evE (sem T (n+1)) (.cmp (.callIO 39 0 (.cons (.bin .add (.var 2) (.lit (.int 1))) .nil)) (.one .gt (.lit (.int 0)))) ρ) toB) (fun ρ => bnd (evE (sem T (n+1)) (.var 3) ρ) frz) (l.map .int) acc [.ow true (.l io), .v (.int count), .v (.int wide), s3] =
      .ok (acc ++ R.map .int) [.ow true (.l io'), .v (.int count), .v (.int wide), s3']
  | [], acc, io, s3, h => ⟨io, [], s3, h, List.Sublist.refl _, by simp [lcL]⟩
  | a :: l, acc, io, s3, h => by
    obtain ⟨v, j, v0, v1, hj, e⟩ := pick_ok n h (size := wide + 1) (by omega) (by omega)
    rw [List.map_cons, lcL]
    have e1 : asg (.nm 3) (.int a) (wipeE [.ow true (.l io), .v (.int count), .v (.int wide), s3] [3]) = .ok () [.ow true (.l io), .v (.int count), .v (.int wide), .v (.int a)] := by
      simp [asg, wipeE, setS_eq]
    have e2 : bnd (evE (sem T (n+1)) (.cmp (.callIO 39 0 (.cons (.bin .add (.var 2) (.lit (.int 1))) .nil)) (.one .gt (.lit (.int 0)))) [.ow true (.l io), .v (.int count), .v (.int wide), .v (.int a)]) toB = .ok (decide (0 < v)) [.ow true (.l j), .v (.int count), .v (.int wide), .v (.int a)] := by
      simp [e]
    rw [e1]
    simp only [bnd_ok, e2, noX_k]
    by_cases c : 0 < v
    · rw [if_pos (by simpa using c)]
      have e3 : bnd (evE (sem T (n+1)) (.var 3) [.ow true (.l j), .v (.int count), .v (.int wide), .v (.int a)]) frz = .ok (.int a) [.ow true (.l j), .v (.int count), .v (.int wide), .v (.int a)] := by simp
      simp only [e3, bnd_ok, noX_k]
      obtain ⟨io', R, s3', q1, q2, q3⟩ := set_loop n w0 w1 l (acc ++ [.int a]) j (.v (.int a)) hj
      exact ⟨io', a :: R, s3', q1, q2.cons_cons a, by rw [q3]; simp⟩
    · rw [if_neg (by simpa using c)]
      obtain ⟨io', R, s3', q1, q2, q3⟩ := set_loop n w0 w1 l acc j (.v (.int a)) hj
      exact ⟨io', R, s3', q1, q2.cons a, q3⟩
theorem set_drawn (n : Nat) {io : List D} {count : Int} (hio : Src io) (h0 : 0 ≤ count) (h1 : count ≤ 10) : ∃ (io' : List D) (R : List Int), Src io' ∧ VS count R ∧ sem T (n+2) 55 [.list io, .int count] = .ret (.v (eT R)) io' := by
  rw [sem_at (fd := a__law_set) rfl]
  show ∃ (io' : List D) (R : List Int), Src io' ∧ VS count R ∧ outF a__law_set (evS (sem T (n+1)) a__law_set.body [.ow true (.l io), .v (.int count), .un, .un]) = _
  unfold a__law_set
  dsimp only
  obtain ⟨w, io1, w0, w1, hio1, e1⟩ := pick_ok n hio (size := 3) (by omega) (by omega)
  rw [seq_nx (ρ' := [.ow true (.l io1), .v (.int count), .v (.int (1 + w)), .un]) (by simp [e1, setS_eq])]
  obtain ⟨io', R, s3', q1, q2, q3⟩ := set_loop n (count := count) (show 1 ≤ 1 + w by omega) (by omega) (rngI 0 count) [] io1 .un hio1
  refine ⟨io', R, q1, sub_vs q2, ?_⟩
  have hlc : evE (sem T (n+1)) (.lc (.var 3) (.nm 3) (.rng (.lit (.int 0)) (.var 1)) (.cmp (.callIO 39 0 (.cons (.bin .add (.var 2) (.lit (.int 1))) .nil)) (.one .gt (.lit (.int 0)))) [3]) [.ow true (.l io1), .v (.int count), .v (.int (1 + w)), .un] =
      .ok (.nw (.l (R.map .int))) [.ow true (.l io'), .v (.int count), .v (.int (1 + w)), .un] := by
    have hi : evI (sem T (n+1)) (.rng (.lit (.int 0)) (.var 1)) [.ow true (.l io1), .v (.int count), .v (.int (1 + w)), .un] = .ok ((rngI 0 count).map .int) [.ow true (.l io1), .v (.int count), .v (.int (1 + w)), .un] := by
      simp [rngD_eq]
      exact rngOk_k (by omega) (by omega) (by omega) (by omega)
    rw [evE, hi]
    simp only [bnd_ok]
    rw [if_pos (by simp [freeE_cons]), q3]
    simp [backE]
  simp [hlc, eT]
def runsStep (acc : List (Int × Int)) (p : Int) : List (Int × Int) := match acc.getLast? with
  | some q => if q.2 = p - 1 then acc.dropLast ++ [(q.1, p)] else acc ++ [(p, p)]
  | none => [(p, p)]
def runs (S : List Int) : List (Int × Int) := S.foldl runsStep []
end Tx

namespace Mx
open PySem L2 Sn
theorem gone_iff {S : List Int} {r : Rw} : gone S r = true ↔ ∀ p : Int, r.1 ≤ p → p ≤ r.2.1 → p ∈ S := by
  unfold gone
  simp only [List.all_eq_true, decide_eq_true_eq, mem_rngI]
  constructor
  · intro h p h1 h2; exact h p ⟨h1, by omega⟩
  · intro h p ⟨h1, h2⟩; exact h p h1 (by omega)
theorem frd_mono {S U : List Int} (h : ∀ p ∈ S, p ∈ U) : ∀ {rows : List Rw}, (∀ r ∈ rows, 1 ≤ r.2.2) → frd S rows ≤ frd U rows
  | [], _ => Int.le_refl _
  | r :: rem, hp => by
    have ih := frd_mono h (rows := rem) fun a ha => hp a (List.mem_cons_of_mem _ ha)
    have := hp r (List.mem_cons_self ..)
    rw [frd_cons, frd_cons]
    by_cases g : gone S r = true
    · have g2 : gone U r = true := gone_iff.mpr fun p h1 h2 => h p (gone_iff.mp g p h1 h2)
      rw [if_pos g, if_pos g2]; omega
    · rw [if_neg g]; split <;> omega
/-- both sets, their common part -/
theorem frd_super {S U B M : List Int} (hb : ∀ p, (p ∈ S ∨ p ∈ U) → p ∈ B) (hm : ∀ p, p ∈ S → p ∈ U → p ∈ M) : ∀ {rows : List Rw}, (∀ r ∈ rows, 1 ≤ r.2.2) → frd S rows + frd U rows ≤ frd B rows + frd M rows
  | [], _ => Int.le_refl _
  | r :: rem, hp => by
    have ih := frd_super hb hm (rows := rem) fun a ha => hp a (List.mem_cons_of_mem _ ha)
    have := hp r (List.mem_cons_self ..)
    rw [frd_cons, frd_cons, frd_cons, frd_cons]
    have g1 : gone S r = true → gone B r = true := fun g => gone_iff.mpr fun p h1 h2 => hb p (.inl (gone_iff.mp g p h1 h2))
    have g2 : gone U r = true → gone B r = true := fun g => gone_iff.mpr fun p h1 h2 => hb p (.inr (gone_iff.mp g p h1 h2))
    have g3 : gone S r = true → gone U r = true → gone M r = true := fun g g' => gone_iff.mpr fun p h1 h2 => hm p (gone_iff.mp g p h1 h2) (gone_iff.mp g' p h1 h2)
    cases e1 : gone S r <;> cases e2 : gone U r <;> cases e3 : gone B r <;> cases e4 : gone M r <;> simp_all <;> omega
/-- sets apart from each other -/
theorem frd_apart {A B S : List Int} (hs : ∀ p, p ∈ S ↔ p ∈ A ∨ p ∈ B) (h : ∀ x ∈ A, ∀ y ∈ B, x + 1 < y) : ∀ {rows : List Rw}, (∀ r ∈ rows, r.1 ≤ r.2.1) → frd S rows = frd A rows + frd B rows
  | [], _ => rfl
  | r :: rem, hp => by
    have ih := frd_apart hs h (rows := rem) fun a ha => hp a (List.mem_cons_of_mem _ ha)
    have hr := hp r (List.mem_cons_self ..)
    rw [frd_cons, frd_cons, frd_cons, ih]
    have g1 : gone A r = true → gone S r = true := fun g => gone_iff.mpr fun p h1 h2 => (hs p).mpr (.inl (gone_iff.mp g p h1 h2))
    have g2 : gone B r = true → gone S r = true := fun g => gone_iff.mpr fun p h1 h2 => (hs p).mpr (.inr (gone_iff.mp g p h1 h2))
    have g3 : gone A r = true → gone B r = true → False := fun g g' => by
      have := h _ (gone_iff.mp g r.1 (Int.le_refl _) hr) _ (gone_iff.mp g' r.1 (Int.le_refl _) hr)
      omega
    have g4 : gone S r = true → gone A r = true ∨ gone B r = true := fun g => by
      have g' := gone_iff.mp g
      rcases (hs _).mp (g' r.1 (Int.le_refl _) hr) with z | z
      · left
        have : ∀ d : Nat, r.1 + d ≤ r.2.1 → r.1 + (d : Int) ∈ A := fun d => by
          induction d with
          | zero => intro _; simpa using z
          | succ d ihd =>
            intro hd
            have q := ihd (by omega)
            rcases (hs _).mp (g' (r.1 + ((d + 1 : Nat) : Int)) (by omega) hd) with w | w
            · exact w
            · have := h _ q _ w; omega
        exact gone_iff.mpr fun p h1 h2 => by
          have := this (p - r.1).toNat (by omega)
          rw [show r.1 + (((p - r.1).toNat : Nat) : Int) = p by omega] at this
          exact this
      · right
        have : ∀ d : Nat, r.1 + d ≤ r.2.1 → r.1 + (d : Int) ∈ B := fun d => by
          induction d with
          | zero => intro _; simpa using z
          | succ d ihd =>
            intro hd
            have q := ihd (by omega)
            rcases (hs _).mp (g' (r.1 + ((d + 1 : Nat) : Int)) (by omega) hd) with w | w
            · have := h _ w _ q; omega
            · exact w
        exact gone_iff.mpr fun p h1 h2 => by
          have := this (p - r.1).toNat (by omega)
          rw [show r.1 + (((p - r.1).toNat : Nat) : Int) = p by omega] at this
          exact this
    cases e1 : gone A r <;> cases e2 : gone B r <;> cases e3 : gone S r <;> simp_all <;> omega
end Mx

namespace Tx
open PySem PySem.Spec Sn Mx
structure RunsOk (S rem : List Int) (rr : List K2) : Prop where
  le : ∀ q ∈ rr, q.1 ≤ q.2
  sep : rr.Pairwise fun x y => y.2 + 1 < x.1
  mem : ∀ p, p ∈ S ↔ (∃ q ∈ rr, q.1 ≤ p ∧ p ≤ q.2) ∨ p ∈ rem
  asc : rem.Pairwise fun a b => a < b
  last : ∀ q ∈ rr, ∀ p ∈ rem, q.2 < p
def I_runs (S : List Int) (rem : List Int) (ρ : En) : Prop := ∃ rr sx, ρ = [.v (eT S), .ow false (.l ((rr.reverse).map eK)), sx] ∧ Frs (some sx) = true ∧ RunsOk S rem rr ∧ rr.length + rem.length ≤ 1000
theorem RunsOk.new {S rem : List Int} {p : Int} {rr : List K2} (h : RunsOk S (p :: rem) rr) (hn : ∀ q ∈ rr, q.2 + 1 < p) : RunsOk S rem ((p, p) :: rr) := by
  have ha := List.pairwise_cons.mp h.asc
  refine ⟨fun q hq => ?_, List.pairwise_cons.mpr ⟨fun q hq => hn q hq, h.sep⟩, fun x => ?_, ha.2, fun q hq x hx => ?_⟩
  · rcases List.mem_cons.mp hq with rfl | hq
    · exact Int.le_refl _
    · exact h.le q hq
  · rw [h.mem, List.mem_cons]
    constructor
    · rintro (⟨q, hq, z⟩ | rfl | z)
      · exact .inl ⟨q, List.mem_cons_of_mem _ hq, z⟩
      · exact .inl ⟨(x, x), List.mem_cons_self .., Int.le_refl _, Int.le_refl _⟩
      · exact .inr z
    · rintro (⟨q, hq, z⟩ | z)
      · rcases List.mem_cons.mp hq with rfl | hq
        · right; left; have := z.1; have := z.2; simp only at *; omega
        · exact .inl ⟨q, hq, z⟩
      · exact .inr (.inr z)
  · rcases List.mem_cons.mp hq with rfl | hq
    · exact ha.1 x hx
    · exact h.last q hq x (List.mem_cons_of_mem _ hx)
theorem RunsOk.more {S rem : List Int} {p : Int} {q : K2} {rr : List K2} (h : RunsOk S (p :: rem) (q :: rr)) (hn : q.2 = p - 1) : RunsOk S rem ((q.1, p) :: rr) := by
  have ha := List.pairwise_cons.mp h.asc
  have hs := List.pairwise_cons.mp h.sep
  have hq1 := h.le q (List.mem_cons_self ..)
  refine ⟨fun x hx => ?_, List.pairwise_cons.mpr ⟨fun x hx => hs.1 x hx, hs.2⟩, fun x => ?_, ha.2, fun y hy x hx => ?_⟩
  · rcases List.mem_cons.mp hx with rfl | hx
    · show q.1 ≤ p; omega
    · exact h.le x (List.mem_cons_of_mem _ hx)
  · rw [h.mem, List.mem_cons]
    constructor
    · rintro (⟨y, hy, z⟩ | rfl | z)
      · rcases List.mem_cons.mp hy with rfl | hy
        · exact .inl ⟨(y.1, p), List.mem_cons_self .., z.1, by show x ≤ p; omega⟩
        · exact .inl ⟨y, List.mem_cons_of_mem _ hy, z⟩
      · exact .inl ⟨(q.1, x), List.mem_cons_self .., by show q.1 ≤ x; omega, Int.le_refl _⟩
      · exact .inr z
    · rintro (⟨y, hy, z⟩ | z)
      · rcases List.mem_cons.mp hy with rfl | hy
        · have z1 : q.1 ≤ x := z.1
          have z2 : x ≤ p := z.2
          by_cases e : x = p
          · exact .inr (.inl e)
          · exact .inl ⟨q, List.mem_cons_self .., z1, by omega⟩
        · exact .inl ⟨y, List.mem_cons_of_mem _ hy, z⟩
      · exact .inr (.inr z)
  · rcases List.mem_cons.mp hy with rfl | hy
    · exact ha.1 x hx
    · exact h.last y (List.mem_cons_of_mem _ hy) x (List.mem_cons_of_mem _ hx)
theorem runs_sum : ∀ {rr : List K2} {S : List Int} {rows : List Rw}, RunsOk S [] rr → (∀ r ∈ rows, r.1 ≤ r.2.1) → frd S rows = (rr.map fun q => frd (rngI q.1 (q.2 + 1)) rows).sum
  | [], S, rows, h, hr => by
    have e : ∀ p, p ∉ S := fun p hp => by
      rcases (h.mem p).mp hp with ⟨_, z, _⟩ | z <;> cases z
    have : ∀ rows : List Rw, (∀ r ∈ rows, r.1 ≤ r.2.1) → frd S rows = 0 := fun rows => by
      induction rows with
      | nil => intro _; rfl
      | cons r rem ih =>
        intro hr
        rw [frd_cons, ih fun a ha => hr a (List.mem_cons_of_mem _ ha), if_neg fun g => e _ (gone_iff.mp g r.1 (Int.le_refl _) (hr r (List.mem_cons_self ..)))]; rfl
    rw [this rows hr]; rfl
  | q :: rr, S, rows, h, hr => by
    have hs := List.pairwise_cons.mp h.sep
    obtain ⟨A, hA⟩ : ∃ A : List Int, ∀ p, p ∈ A ↔ ∃ y ∈ rr, y.1 ≤ p ∧ p ≤ y.2 := ⟨rr.flatMap fun y => rngI y.1 (y.2 + 1), fun p => by
      rw [List.mem_flatMap]
      constructor
      · rintro ⟨y, hy, z⟩; have := mem_rngI.mp z; exact ⟨y, hy, by omega, by omega⟩
      · rintro ⟨y, hy, z⟩; exact ⟨y, hy, mem_rngI.mpr ⟨by omega, by omega⟩⟩⟩
    have ih := runs_sum (rr := rr) (S := A) (rows := rows) ⟨fun y hy => h.le y (List.mem_cons_of_mem _ hy), hs.2, fun p => by rw [hA]; simp, List.Pairwise.nil, fun _ _ _ z => by cases z⟩ hr
    rw [List.map_cons, List.sum_cons, ← ih, frd_apart (A := A) (B := rngI q.1 (q.2 + 1)) (S := S) (fun p => ?_) (fun x hx y hy => ?_) hr]
    · omega
    · rw [h.mem, hA, mem_rngI]
      constructor
      · rintro (⟨y, hy, z⟩ | z)
        · rcases List.mem_cons.mp hy with rfl | hy
          · right; omega
          · exact .inl ⟨y, hy, z⟩
        · cases z
      · rintro (⟨y, hy, z⟩ | z)
        · exact .inl ⟨y, List.mem_cons_of_mem _ hy, z⟩
        · exact .inl ⟨q, List.mem_cons_self .., by omega, by omega⟩
    · obtain ⟨z, hz, z1, z2⟩ := (hA x).mp hx
      have := hs.1 z hz
      have := mem_rngI.mp hy
      omega

theorem canLay_keys : ∀ l : List K2, PyData.canLayAll0 (l.map eK) = true
  | [] => rfl
  | a :: l => by rw [List.map_cons, PyData.canLayAll0, canLay_keys l]; rfl
theorem shp_keys (l : List K2) : SeqAt.shaped (.list (l.map eK)) = true := by
  have := depth_eK l
  unfold SeqAt.shaped
  rw [PyData.canLay0, canLay_keys, PyData.depth, Bool.true_and, decide_eq_true_eq]; omega
theorem ne_nilK (l : List K2) : cmpD .ne (.list (l.map eK)) (.list []) = some (!decide (l = [])) := by
  show (if (SeqAt.shaped (.list (l.map eK)) && SeqAt.shaped (.list [])) = true then some (!PyData.eqv (.list (l.map eK)) (.list [])) else none) = _
  rw [shp_keys, show SeqAt.shaped (.list []) = true from rfl, show (true && true) = true from rfl, if_pos rfl, PyData.eqv]
  cases l <;> rfl
theorem put_last (l : List D) (a d : D) : putC (.l (l ++ [a])) (.int (-1)) d = some (.l (l ++ [d])) := by
  show (L2.ixN (l ++ [a]).length (-1)).map (fun j => C.l ((l ++ [a]).set j d)) = _
  have e : L2.ixN (l ++ [a]).length (-1) = some l.length := by
    unfold L2.ixN
    rw [if_neg (by omega), if_pos (by rw [List.length_append]; simp; omega)]
    congr 1
    rw [List.length_append]; simp; omega
  rw [e, Option.map_some]
  congr 2
  rw [List.set_append_right _ _ (Nat.le_refl _)]
  simp
theorem ok_runs (n : Nat) {c : Int} {S : List Int} (hc : c ≤ 10) (h : VS c S) : ∃ rr : List K2, RunsOk S [] rr ∧ rr.length ≤ 1000 ∧ sem T (n+1) 59 [eT S] = .ret (.nw (.l (rr.reverse.map eK))) [] := by
  have hlen := vs_len h hc
  rw [sem_at (fd := a__law_runs) rfl]
  show ∃ rr : List K2, RunsOk S [] rr ∧ rr.length ≤ 1000 ∧ outF a__law_runs (evS (sem T n) a__law_runs.body [.v (eT S), .un, .un]) = _
  unfold a__law_runs
  dsimp only
  rw [seq_nx (ρ' := [.v (eT S), .ow false (.l []), .un]) (by simp [setS_eq]), s_seq]
  refine for_k (fun x => ∃ rr : List K2, RunsOk S [] rr ∧ rr.length ≤ 1000 ∧ outF _ x = .ret (.nw (.l (rr.reverse.map eK))) []) S .int (I_runs S) (by simp [eT]) ⟨[], .un, rfl, rfl, ⟨(fun _ h => by cases h), List.Pairwise.nil, fun p => by simp, h.srt, (fun _ h => by cases h)⟩, by simp; omega⟩ ?_ ?_
  · rintro p rem ρ ⟨rr, sx, rfl, hx, ho, hl⟩
    refine ⟨[.v (eT S), .ow false (.l (rr.reverse.map eK)), .v (.int p)], by simp [asg, setS_eq, hx], ?_⟩
    simp only [List.length_cons] at hl
    have e2 : PyData.tuple [.int p, .int p] = eK (p, p) := rfl
    cases rr with
    | nil =>
      have e1 := ne_nilK []
      simp only [List.map_nil, decide_true, Bool.not_true] at e1
      refine ⟨[.v (eT S), .ow false (.l [eK (p, p)]), .v (.int p)], ?_, [(p, p)], .v (.int p), rfl, rfl, ho.new (fun _ h => by cases h), by simp; omega⟩
      simp [e1, sizeLine, e2]
    | cons q rr =>
      have e1 := ne_nilK (q :: rr).reverse
      have e0 : ((q :: rr).reverse.map eK) = rr.reverse.map eK ++ [eK q] := by simp
      have e1' : cmpD .ne (.list (rr.reverse.map eK ++ [eK q])) (.list []) = some true := by rw [← e0, e1]; simp
      have e3 : ixD (.list (rr.reverse.map eK ++ [eK q])) (.int (-1)) = some (eK q) := by rw [ix_last _ (by simp)]; simp
      have e4 : ixD (eK q) (.int 1) = some (.int q.2) := ix_t1 _ _ _
      have e5 : ixD (eK q) (.int 0) = some (.int q.1) := ix_t0 _ _
      rw [e0]
      by_cases hq : q.2 = p - 1
      · refine ⟨[.v (eT S), .ow false (.l (rr.reverse.map eK ++ [eK (q.1, p)])), .v (.int p)], ?_, (q.1, p) :: rr, .v (.int p), by simp, rfl, ho.more hq, by simp at hl ⊢; omega⟩
        have e6 : PyData.tuple [.int q.1, .int p] = eK (q.1, p) := rfl
        have e7 := put_last (rr.reverse.map eK) (eK q) (eK (q.1, p))
        rw [s_seq, s_ite]
        simp only [List.map_reverse] at e1' e3 e7 ⊢
        simp [e1', e3, e4, e5, hq, e6, e7]
      · have hn : ∀ y ∈ q :: rr, y.2 + 1 < p := fun y hy => by
          have a1 := ho.last y hy p (List.mem_cons_self ..)
          have a2 := ho.last q (List.mem_cons_self ..) p (List.mem_cons_self ..)
          rcases List.mem_cons.mp hy with rfl | hy
          · omega
          · have := (List.pairwise_cons.mp ho.sep).1 y hy
            have := ho.le q (List.mem_cons_self ..)
            omega
        refine ⟨[.v (eT S), .ow false (.l (rr.reverse.map eK ++ [eK q] ++ [eK (p, p)])), .v (.int p)], ?_, (p, p) :: q :: rr, .v (.int p), by simp, rfl, ho.new hn, by simp at hl ⊢; omega⟩
        have hs : rr.length + 1 < sizeLine := by simp at hl; unfold sizeLine; omega
        simp only [List.map_reverse] at e1' e3 ⊢
        simp [e1', e3, e4, e5, hq, e2, hs]
  · rintro ρ' ⟨rr, sx, rfl, hx, ho, hl⟩
    exact ⟨rr, ho, by simp at hl; omega, by simp [outF_rt]⟩
end Tx

namespace Tx
open PySem PySem.Spec Sn Mx
def eP (p : List Int) : D := .tuple [.int p.length, eT p]
theorem alike_ints : ∀ a b : List Int, PySem.W.alikeAll (a.map .int) (b.map .int) = true
  | [], _ => by simp [PySem.W.alikeAll]
  | _ :: _, [] => by simp [PySem.W.alikeAll]
  | x :: a, y :: b => by simp only [List.map_cons, PySem.W.alikeAll, alike_ints a b, PySem.W.alike, Bool.and_self]
theorem alike_eP (a b : List Int) : PySem.W.alike (eP a) (eP b) = true := by
  unfold eP eT
  simp [PySem.W.alike, PySem.W.alikeAll, alike_ints]
theorem depth_eP : ∀ l : List (List Int), PyData.depthAll (l.map eP) ≤ 2
  | [] => Nat.zero_le _
  | a :: l => by
    have := depth_eP l
    rw [List.map_cons, PyData.depthAll]
    have : PyData.depth (eP a) = 2 := by unfold eP eT; simp [PyData.depth, PyData.depthAll, depth_ints]
    omega
theorem sort_eP (l : List (List Int)) : ∃ l' : List (List Int), l'.Perm l ∧ biD .sorted [.list (l.map eP)] = some (.nw (.l (l'.map eP))) := by
  have h1 : alikeB (l.map eP) = true := by
    unfold alikeB
    simp only [List.all_eq_true, List.mem_map]
    rintro _ ⟨a, _, rfl⟩ _ ⟨b, _, rfl⟩
    exact alike_eP a b
  have h2 : sortB (l.map eP) = true := by
    unfold sortB
    rw [Bool.or_eq_true]
    refine .inl ?_
    simp only [List.all_eq_true, List.mem_map]
    rintro _ ⟨a, _, rfl⟩
    rfl
  have h3 : PyData.depth (.list (l.map eP)) ≤ 60 := by
    have := depth_eP l
    rw [PyData.depth]; omega
  refine ⟨l.mergeSort fun a b => PySem.W.dataLe false id (eP a) (eP b), List.mergeSort_perm .., ?_⟩
  show (if (alikeB (l.map eP) && (sortB (l.map eP) && decide (PyData.depth (.list (l.map eP)) ≤ 60))) = true then some (R.nw (.l (sortD (l.map eP)))) else none) = _
  rw [h1, h2, decide_eq_true h3, show (true && (true && true)) = true from rfl, if_pos rfl]
  unfold sortD
  rw [List.map_mergeSort (r := fun a b => PySem.W.dataLe false id (eP a) (eP b)) (s := PySem.W.dataLe false id) (f := eP) fun a _ b _ => rfl]
def I_sub (items rem : List Int) (ρ : En) : Prop := ∃ (found : List (List Int)) (s2 : Sl), ρ = [.v (.list (items.map .int)), .ow false (.l (found.map eT)), s2, .un, .un, .un] ∧ Frs (some s2) = true ∧ (∀ P ∈ found, (P ++ rem).Sublist items ∧ P.length + rem.length ≤ 100) ∧ found.length * 2 ^ rem.length ≤ 1024
theorem subsets_ok (n : Nat) {c : Int} (h0 : 0 ≤ c) (h1 : c ≤ 10) : ∃ F : List (List Int), (∀ P ∈ F, VS c P) ∧ sem T (n+1) 58 [.list ((rngI 0 c).map .int)] = .ret (.nw (.l (F.map eT))) [] := by
  have hk : (rngI 0 c).length = c.toNat := by unfold rngI; rw [List.length_map, List.length_range]; congr 1; omega
  rw [sem_at (fd := a__law_subsets) rfl]
  show ∃ F : List (List Int), (∀ P ∈ F, VS c P) ∧ outF a__law_subsets (evS (sem T n) a__law_subsets.body [.v (.list ((rngI 0 c).map .int)), .un, .un, .un, .un, .un]) = _
  unfold a__law_subsets
  dsimp only
  have et : PyData.tuple [] = eT [] := rfl
  rw [seq_nx (ρ' := [.v (.list ((rngI 0 c).map .int)), .ow false (.l [eT []]), .un, .un, .un, .un]) (by simp [setS_eq, et]), s_seq]
  refine for_k (fun x => ∃ F : List (List Int), (∀ P ∈ F, VS c P) ∧ outF _ x = .ret (.nw (.l (F.map eT))) []) (rngI 0 c) .int (I_sub (rngI 0 c)) (by simp) ⟨[[]], .un, rfl, rfl, (fun P hP => by simp at hP; subst hP; exact ⟨List.Sublist.refl _, by rw [hk]; simp; omega⟩), by
      rw [hk]
      have : 2 ^ c.toNat ≤ 2 ^ 10 := Nat.pow_le_pow_right (by omega) (by omega)
      simp; omega⟩ ?_ ?_
  · rintro a rem ρ ⟨found, s2, rfl, h2, hf, hl⟩
    refine ⟨[.v (.list ((rngI 0 c).map .int)), .ow false (.l (found.map eT)), .v (.int a), .un, .un, .un], by simp [asg, setS_eq, h2], ?_⟩
    have hp : found.length * 2 ^ (rem.length + 1) = (found.length + found.length) * 2 ^ rem.length := by rw [Nat.pow_succ, Nat.mul_comm (2 ^ rem.length) 2, ← Nat.mul_assoc]; congr 1; omega
    simp only [List.length_cons] at hl
    rw [hp] at hl
    have hb : found.length + found.length ≤ 1024 := Nat.le_trans (Nat.le_mul_of_pos_right _ (Nat.pow_pos (by omega))) hl
    have hlc : evE (sem T n) (.lc (.bin .add (.var 4) (.tup (.cons (.var 2) .nil))) (.nm 4) (.seq (.var 1)) (.lit (.bool true)) [4]) [.v (.list ((rngI 0 c).map .int)), .ow false (.l (found.map eT)), .v (.int a), .un, .un, .un] =
        .ok (.nw (.l ((found.map fun P => P ++ [a]).map eT))) [.v (.list ((rngI 0 c).map .int)), .v (.list (found.map eT)), .v (.int a), .un, .un, .un] := by
      rw [lc_allE [.v (.list ((rngI 0 c).map .int)), .v (.list (found.map eT)), .v (.int a), .un, .un, .un] found eT (fun P => eT (P ++ [a]))]
      · rw [List.map_map]; rfl
      · simp
      · simp [freeE_cons]
      · intro P hP
        refine ⟨_, by simp [asg, wipeE, setS_eq]; rfl, by simp [wipeE], ?_⟩
        have hPl := (hf P hP).2
        have e9 : binD .add (eT P) (.tuple [.int a]) = some (.v (eT (P ++ [a]))) := by
          unfold eT
          rw [add_tt _ _ (by rw [List.length_map]; simp only [List.length_cons, List.length_nil] at *; unfold sizeLine; omega)]
          simp
        simp [e9]
    have e8 : binD .add (.list (found.map eT)) (.list ((found.map fun P => P ++ [a]).map eT)) = some (.nw (.l ((found ++ found.map fun P => P ++ [a]).map eT))) := by
      show (if (found.map eT).length + ((found.map fun P => P ++ [a]).map eT).length ≤ sizeLine then some (R.nw (.l (found.map eT ++ (found.map fun P => P ++ [a]).map eT))) else none) = _
      rw [if_pos (by rw [List.length_map, List.length_map, List.length_map]; unfold sizeLine; omega), List.map_append]
    refine ⟨[.v (.list ((rngI 0 c).map .int)), .ow false (.l ((found ++ found.map fun P => P ++ [a]).map eT)), .v (.int a), .un, .un, .un], ?_, found ++ found.map (fun P => P ++ [a]), .v (.int a), rfl, rfl, fun P hP => ?_, ?_⟩
    · simp only [s_seq, s_set, e_bin, e_var, List.getElem?_cons_succ, List.getElem?_cons_zero, gV_ow, bnd_ok, opr_sl, hlc, opr_nw, vw_sl, vS_v, vw_v, opt_some, e8, setR_nw, setS_eq]
      simp
    · rcases List.mem_append.mp hP with hP | hP
      · have := hf P hP
        exact ⟨(List.Sublist.append_left (List.sublist_cons_self a rem) P).trans this.1, by have := this.2; simp only [List.length_cons] at this; omega⟩
      · obtain ⟨Q, hQ, rfl⟩ := List.mem_map.mp hP
        have := hf Q hQ
        exact ⟨by rw [List.append_assoc]; exact this.1, by have := this.2; simp only [List.length_cons, List.length_append, List.length_nil] at this ⊢; omega⟩
    · rw [List.length_append, List.length_map]; exact hl
  · rintro ρ' ⟨found, s2, rfl, h2, hf, hl⟩
    obtain ⟨F, pF, eF⟩ := sort_eP found
    refine ⟨F, fun P hP => sub_vs (by have := (hf P (pF.mem_iff.mp hP)).1; simpa using this), ?_⟩
    rw [sqF_nx, seq_nx (ρ' := [.v (.list ((rngI 0 c).map .int)), .v (.list (found.map eT)), s2, .ow false (.l (F.map eP)), .un, .un]) (by
      rw [s_set, e_sorted, lc_allE [.v (.list ((rngI 0 c).map .int)), .v (.list (found.map eT)), s2, .un, .un, .un] found eT eP]
      · simp [eF, setS_eq]
      · simp
      · simp [freeE_cons]
      · intro P hP
        refine ⟨_, by simp [asg, wipeE, setS_eq]; rfl, by simp [wipeE], ?_⟩
        have : biD .len [eT P] = some (.v (.int P.length)) := by unfold eT; simp
        simp [this, eP])]
    rw [s_seq, s_ret, lc_allE [.v (.list ((rngI 0 c).map .int)), .v (.list (found.map eT)), s2, .v (.list (F.map eP)), .un, .un] F eP eT]
    · simp
    · simp
    · simp [freeE_cons]
    · intro P hP
      exact ⟨_, by simp [asg, wipeE, setS_eq, eP]; rfl, by simp [wipeE], by simp⟩
end Tx

namespace Mx
open PySem L2 Sn
theorem mem_insU (i x : Int) : ∀ l : List Int, x ∈ insU i l ↔ x = i ∨ x ∈ l
  | [] => by simp [insU]
  | j :: r => by
    rw [insU]
    split
    · simp
    · split
      · rename_i e; subst e; simp
      · rw [List.mem_cons, mem_insU i x r, List.mem_cons]
        constructor
        · rintro (h | h | h)
          · exact .inr (.inl h)
          · exact .inl h
          · exact .inr (.inr h)
        · rintro (h | h | h)
          · exact .inr (.inl h)
          · exact .inl h
          · exact .inr (.inr h)
theorem insU_asc (i : Int) : ∀ l : List Int, (l.Pairwise fun a b => a < b) → (insU i l).Pairwise fun a b => a < b
  | [], _ => by simp [insU]
  | j :: r, h => by
    have h' := List.pairwise_cons.mp h
    rw [insU]
    split
    · rename_i c
      exact List.pairwise_cons.mpr ⟨fun x hx => by
        rcases List.mem_cons.mp hx with rfl | hx
        · exact c
        · have := h'.1 x hx; omega, h⟩
    · split
      · exact h
      · rename_i c1 c2
        refine List.pairwise_cons.mpr ⟨fun x hx => ?_, insU_asc i r h'.2⟩
        rcases (mem_insU i x r).mp hx with rfl | hx
        · omega
        · exact h'.1 x hx
theorem mem_setI (x : Int) : ∀ l : List Int, x ∈ setI l ↔ x ∈ l
  | [] => by simp [setI]
  | i :: r => by
    show x ∈ insU i (setI r) ↔ _
    rw [mem_insU, mem_setI x r, List.mem_cons]
theorem setI_asc : ∀ l : List Int, (setI l).Pairwise fun a b => a < b
  | [] => List.Pairwise.nil
  | i :: r => insU_asc i (setI r) (setI_asc r)
theorem setD_t (l : List Int) (h : l.length < 64) : setD (.tuple (l.map .int)) = some (.nw (.l ((setI l).map .int))) := by
  show (intsD (l.map PyData.int)).bind (fun ns => if ns.length < 64 then some (R.nw (.l ((setI ns).map .int))) else none) = _
  have := m_ints (α := Int) id l
  rw [List.map_id] at this
  have e : (l.map fun a => PyData.int (id a)) = l.map PyData.int := rfl
  rw [e] at this
  rw [this]
  show (if l.length < 64 then _ else none) = _
  rw [if_pos h]
theorem VS.union {c : Int} {S U : List Int} (h1 : VS c S) (h2 : VS c U) : VS c (setI (S ++ U)) :=
  ⟨fun v hv => by
    rcases List.mem_append.mp ((mem_setI v _).mp hv) with z | z
    · exact h1.mem v z
    · exact h2.mem v z, setI_asc _⟩
theorem VS.common {c : Int} {S : List Int} (p : Int → Bool) (h1 : VS c S) : VS c (S.filter p) :=
  ⟨fun v hv => h1.mem v (List.mem_filter.mp hv).1, h1.srt.filter _⟩
end Mx

namespace Tx
open PySem PySem.Spec Sn Mx
theorem for_kE {α β : Type} {Φ : Nat → List D → Out} {ρ : En} {tg : Tg} {it : Sn.It} {b : Sx} {f : Fl → En → Res β} (P : Res β → Prop) (ρ0 : En) (l : List α) (enc : α → D) (I : List α → En → Prop) (h1 : evI Φ it ρ = .ok (l.map enc) ρ0) (h0 : I l ρ0)
    (h : ∀ a r ρ, I (a :: r) ρ → ∃ ρ1, asg tg (enc a) ρ = .ok () ρ1 ∧ ∃ ρ2, evS Φ b ρ1 = .ok .nx ρ2 ∧ I r ρ2) (hk : ∀ ρ', I [] ρ' → P (f .nx ρ')) : P (bnd (evS Φ (.for_ tg it b) ρ) f) := by
  obtain ⟨ρ', e, q⟩ := forL_go (tg := tg) (b := evS Φ b) enc I h l ρ0 h0
  rw [s_for, h1]
  simp only [bnd_ok, e]
  exact hk ρ' q
/-- the sets that are drawn -/
theorem sets_loop (n : Nat) {c : Int} (h0 : 0 ≤ c) (h1 : c ≤ 10) (a0 a1 a3 a4 a5 a6 a7 a8 a9 a10 a12 a13 a14 : Sl) (hc : a4 = .v (.int c)) : ∀ (l : List Int) (F : List (List Int)) (io : List D) (s : Sl), Src io → (∀ P ∈ F, VS c P) → ∃ (io' : List D) (G : List (List Int)) (s' : Sl), Src io' ∧ (∀ P ∈ G, VS c P) ∧
    lcL [11] (.nm 11) (fun ρ => bnd (evE (sem T (n+2)) (.lit (.bool true)) ρ) toB) (fun ρ => bnd (evE (sem T (n+2)) (.callIO 55 2 (.cons (.var 4) .nil)) ρ) frz) (l.map .int) (F.map eT) [a0, a1, .ow false (.l io), a3, a4, a5, a6, a7, a8, a9, a10, s, a12, a13, a14] =
      .ok (G.map eT) [a0, a1, .ow false (.l io'), a3, a4, a5, a6, a7, a8, a9, a10, s', a12, a13, a14]
  | [], F, io, s, h, hF => ⟨io, F, s, h, hF, rfl⟩
  | x :: l, F, io, s, h, hF => by
    obtain ⟨j, P, hj, hP, e⟩ := set_drawn n h h0 h1
    have e1 : asg (.nm 11) (.int x) (wipeE [a0, a1, .ow false (.l io), a3, a4, a5, a6, a7, a8, a9, a10, s, a12, a13, a14] [11]) = .ok () [a0, a1, .ow false (.l io), a3, a4, a5, a6, a7, a8, a9, a10, .v (.int x), a12, a13, a14] := by
      simp [asg, wipeE, setS_eq]
    have e2 : bnd (evE (sem T (n+2)) (.callIO 55 2 (.cons (.var 4) .nil)) [a0, a1, .ow false (.l io), a3, a4, a5, a6, a7, a8, a9, a10, .v (.int x), a12, a13, a14]) frz = .ok (eT P) [a0, a1, .ow false (.l j), a3, a4, a5, a6, a7, a8, a9, a10, .v (.int x), a12, a13, a14] := by
      simp [hc, e]
    obtain ⟨io', G, s', q1, q2, q3⟩ := sets_loop n h0 h1 a0 a1 a3 a4 a5 a6 a7 a8 a9 a10 a12 a13 a14 hc l (F ++ [P]) j (.v (.int x)) hj (fun Q hQ => by
      rcases List.mem_append.mp hQ with hQ | hQ
      · exact hF Q hQ
      · simp at hQ; rw [hQ]; exact hP)
    refine ⟨io', G, s', q1, q2, ?_⟩
    rw [List.map_cons, lcL, e1]
    simp only [bnd_ok, e_lit, toB_b, noX_k, if_true, e2]
    rw [← q3, List.map_append]; rfl
end Tx

namespace Tx
open PySem PySem.Spec Sn Mx
theorem sum_rev : ∀ l : List Int, l.reverse.sum = l.sum
  | [] => rfl
  | a :: l => by rw [List.reverse_cons, List.sum_append, sum_rev l]; simp; omega
theorem run_vs {c : Int} {S : List Int} {rr : List K2} (h : VS c S) (ho : RunsOk S [] rr) {q : K2} (hq : q ∈ rr) : VS c (rngI q.1 (q.2 + 1)) ∧ 0 ≤ q.1 ∧ q.2 < c := by
  have m : ∀ p, q.1 ≤ p → p ≤ q.2 → 0 ≤ p ∧ p < c := fun p h1 h2 => h.mem p ((ho.mem p).mpr (.inl ⟨q, hq, h1, h2⟩))
  have hl := ho.le q hq
  exact ⟨⟨fun v hv => by have := mem_rngI.mp hv; exact m v (by omega) (by omega), rngI_asc _ _⟩, (m q.1 (Int.le_refl _) hl).1, (m q.2 hl (Int.le_refl _)).2⟩
theorem st_parts (n : Nat) {L : Lay} {S : List Int} {io : List D} {s0 s1 s5 s7 s8 s9 s10 : Sl} (hL : WL L) (hS : VS L.c S) (h7 : Frs (some s7) = true) : ∃ ps : List Int, ps.sum = frd S L.rows ∧
    evS (sem T (n+6)) (.set 7 (.lc (.call 8 (.cons (.var 3) (.cons (.tupRg (.var 12) (.bin .add (.var 13) (.lit (.int 1)))) .nil))) (.tp (.cs (.nm 12) (.cs (.nm 13) .nl))) (.seq (.call 59 (.cons (.var 6) .nil))) (.lit (.bool true)) [12, 13])) [s0, s1, .ow false (.l io), .v (eL L), .v (.int L.c), s5, .v (eT S), s7, s8, s9, s10, .un, .un, .un, .un] =
      .ok .nx [s0, s1, .ow false (.l io), .v (eL L), .v (.int L.c), s5, .v (eT S), .ow false (.l (ps.map .int)), s8, s9, s10, .un, .un, .un, .un] := by
  obtain ⟨rr, ho, _, er⟩ := ok_runs (n+5) hL.c1 hS
  refine ⟨rr.reverse.map fun q => frd (rngI q.1 (q.2 + 1)) L.rows, ?_, ?_⟩
  · rw [List.map_reverse, sum_rev, ← runs_sum ho fun r hr => (hL.good r hr).2.1]
  · rw [s_set, lc_all rr.reverse eK (fun q => .int (frd (rngI q.1 (q.2 + 1)) L.rows))]
    · simp only [bnd_ok, setR_nw, setS_eq]
      simp [h7]
    · simp [er]
    · simp [freeE_cons]
    · intro q hq
      obtain ⟨v1, v2, v3⟩ := run_vs hS ho (List.mem_reverse.mp hq)
      have := hL.c1
      have := ho.le q (List.mem_reverse.mp hq)
      refine ⟨_, by simp [asg, wipeE, setS_eq, eK]; rfl, by simp [wipeE], ?_⟩
      have f := freed_w (n+1) hL v1
      have e : eT (rngI q.1 (q.2 + 1)) = .tuple (rngD q.1 (q.2 + 1)) := by unfold eT; rw [rngD_eq]
      rw [e] at f
      have rk := rngOk_k (a := q.1) (b := q.2 + 1) (by omega) (by omega) (by omega) (by omega)
      simp [rk, f]
end Tx

namespace Tx
open PySem PySem.Spec Sn Mx
theorem eqv_ints : ∀ l : List Int, PyData.eqvAll (l.map .int) (l.map .int) = true
  | [] => by rw [List.map_nil, PyData.eqvAll]
  | a :: l => by rw [List.map_cons, PyData.eqvAll, eqv_ints l, PyData.eqv]; simp
theorem eqv_rows : ∀ l : List Rw, PyData.eqvAll (l.map eR) (l.map eR) = true
  | [] => by rw [List.map_nil, PyData.eqvAll]
  | a :: l => by
    rw [List.map_cons, PyData.eqvAll, eqv_rows l, Bool.and_true]
    unfold eR
    simp [PyData.eqv, PyData.eqvAll]
theorem lay_rows : ∀ l : List Rw, PyData.canLayAll0 (l.map eR) = true ∧ PyData.depthAll (l.map eR) ≤ 1
  | [] => ⟨rfl, Nat.zero_le _⟩
  | a :: l => by
    have := lay_rows l
    rw [List.map_cons, PyData.canLayAll0, PyData.depthAll, this.1]
    have e : PyData.depth (eR a) = 1 := by unfold eR; simp [PyData.depth, PyData.depthAll]
    have e2 : PyData.canLay0 (eR a) = true := by unfold eR; simp [PyData.canLay0, PyData.canLayAll0]
    rw [e, e2]
    exact ⟨rfl, by omega⟩
theorem ne_same (i : Int) (L : Lay) : cmpD .ne (.tuple [.int i, eL L]) (.tuple [.int i, eL L]) = some false := by
  have hl := lay_rows L.rows
  have hs : SeqAt.shaped (.tuple [.int i, eL L]) = true := by
    have h2 := hl.2
    have e1 : PyData.canLay0 (eL L) = true := by unfold eL; simp [PyData.canLay0, PyData.canLayAll0, hl.1]
    have e2 : PyData.depth (eL L) ≤ 3 := by unfold eL; simp [PyData.depth, PyData.depthAll]; omega
    have e3 : PyData.canLay0 (.tuple [.int i, eL L]) = true := by simp [PyData.canLay0, PyData.canLayAll0, e1]
    have e4 : PyData.depth (.tuple [.int i, eL L]) ≤ 64 := by simp [PyData.depth, PyData.depthAll]; omega
    unfold SeqAt.shaped
    rw [e3, decide_eq_true e4]; rfl
  show (if (SeqAt.shaped (.tuple [.int i, eL L]) && SeqAt.shaped (.tuple [.int i, eL L])) = true then some (!PyData.eqv (.tuple [.int i, eL L]) (.tuple [.int i, eL L])) else none) = _
  rw [hs, show (true && true) = true from rfl, if_pos rfl]
  unfold eL
  simp [PyData.eqv, PyData.eqvAll, eqv_rows]
end Tx

namespace Tx
open PySem PySem.Spec Sn Mx
theorem go_seq {Φ : Nat → List D → Out} {a b : Sx} {ρ ρ' : En} {r : Res Fl} (h : evS Φ a ρ = .ok .nx ρ') (k : evS Φ b ρ' = r) : evS Φ (.seq a b) ρ = r := by rw [seq_nx h]; exact k
theorem total_ok (n : Nat) {L : Lay} (h : WL L) : sem T (n+5) 6 [eL L] = .ret (.v (.int (tot L.rows))) [] := by
  rw [sem_at (fd := a_total_space) rfl]
  have e : ixD (eL L) (.int 1) = some (.tuple (L.rows.map eR)) := by simp [eL]
  simp [runF, startE, a_total_space, ok_require_layout _ L (lay_ok h)]
  rw [lc_all L.rows eR (fun r => .int r.2.2)]
  · simp [m_sum, tot]
  · simp [e]
  · simp [freeE_cons]
  · intro a ha
    exact ⟨_, by simp [asg, eR, wipeE, setS_eq]; rfl, by simp [wipeE], by simp⟩
theorem unique_ok (n : Nat) {L : Lay} (h : WL L) : sem T (n+5) 18 [eL L] = .ret (.nw (.l ((rngI 0 L.c).map fun p => .int (frd [p] L.rows)))) [] := by
  rw [sem_at (fd := a_unique_sizes) rfl]
  have e : ixD (eL L) (.int 0) = some (.int L.c) := by simp [eL]
  have := h.c0
  have := h.c1
  simp [runF, startE, a_unique_sizes, ok_require_layout _ L (lay_ok h)]
  rw [lc_all (rngI 0 L.c) .int (fun p => .int (frd [p] L.rows))]
  · simp
  · simp [e, rngD_eq]
    exact rngOk_k (by omega) (by omega) (by omega) (by omega)
  · simp [freeE_cons]
  · intro a ha
    have f := ok_freed_by (n+3) L [a] (lay_small (lay_ok h))
    exact ⟨_, by simp [asg, wipeE, setS_eq]; rfl, by simp [wipeE], by simp [eT] at f ⊢; simp [f]⟩
@[simp] theorem eq_nil (l : List Int) : cmpD .eq (.list (l.map .int)) (.list []) = some (decide (l = [])) := by
  show (if (SeqAt.shaped (.list (l.map .int)) && SeqAt.shaped (.list [])) = true then some (PyData.eqv (.list (l.map .int)) (.list [])) else none) = _
  rw [shp_ints, show SeqAt.shaped (.list []) = true from rfl, show (true && true) = true from rfl, if_pos rfl, PyData.eqv]
  cases l <;> rfl
theorem gone_filter (S : List Int) (r : Rw) : decide (((rngI r.1 (r.2.1 + 1)).filter fun p => !decide (p ∈ S)) = []) = gone S r := by
  unfold gone
  rw [Bool.eq_iff_iff]
  simp [List.filter_eq_nil_iff]
def I_lfr (L : Lay) (S : List Int) (rem : List Rw) (ρ : En) : Prop := ∃ acc s3 s4 s5, Frs (some s3) = true ∧ Frs (some s4) = true ∧ Frs (some s5) = true ∧ ρ = [.v (eL L), .v (eT S), .v (.int acc), s3, s4, s5, .un] ∧ acc + frd S rem = frd S L.rows ∧ ∀ r ∈ rem, smallR r
theorem lawfreed_ok (n : Nat) (L : Lay) (S : List Int) (hr : ∀ r ∈ L.rows, smallR r) : sem T (n+1) 52 [eL L, eT S] = .ret (.v (.int (frd S L.rows))) [] := by
  rw [sem_at (fd := a__law_freed) rfl]
  simp [runF, startE, a__law_freed, setS_eq]
  refine for_k (fun x => outF _ x = _) L.rows eR (I_lfr L S)
    (by simp [eL]) ⟨0, .un, .un, .un, rfl, rfl, rfl, rfl, by omega, hr⟩ ?_ ?_
  · rintro r rem ρ ⟨acc, s3, s4, s5, h3, h4, h5, rfl, hs, hm⟩
    have hb := hm r (List.mem_cons_self ..)
    unfold smallR at hb
    rw [frd_cons] at hs
    simp [asg, eR, setS_eq, h3, h4, h5]
    rw [lc_map (rngI r.1 (r.2.1 + 1)) .int (fun p => !decide (p ∈ S)) .int]
    · have hg := gone_filter S r
      simp only [eq_nil, bnd_ok, opr_nw, e_lst, es_nil, vw_v, vw_nw, cmpR_v, Option.bind_some, opt_some, toB_b, hg]
      simp [hg]
      cases c : gone S r
      · rw [c, if_neg Bool.false_ne_true] at hs
        simp
        exact ⟨_, _, _, _, rfl, rfl, rfl, rfl, by omega, fun a ha => hm a (List.mem_cons_of_mem _ ha)⟩
      · rw [c, if_pos rfl] at hs
        simp [setS_eq]
        exact ⟨_, _, _, _, rfl, rfl, rfl, rfl, by omega, fun a ha => hm a (List.mem_cons_of_mem _ ha)⟩
    · simp [rngD_eq]
      exact rngOk_k (by omega) (by omega) (by omega) (by omega)
    · simp [freeE_cons]
    · intro a ha
      exact ⟨_, by simp [asg, wipeE, setS_eq]; rfl, by simp [wipeE], by simp [eT], fun _ => by simp⟩
  · rintro ρ' ⟨acc, s3, s4, s5, h3, h4, h5, rfl, hs, _⟩
    have : frd S [] = 0 := rfl
    rw [this] at hs
    simp at hs ⊢
    exact hs
end Tx

namespace Tx
open PySem PySem.Spec Sn Mx
def I_mrg (count : Int) (rows : List Rw) (rem : List Rw) (ρ : En) : Prop := ∃ t s3 s4 s5, ρ = [.v (.int count), .v (.list (rows.map eR)), .ow false (.t (eTb t)), s3, s4, s5, .un] ∧
  Frs (some s3) = true ∧ Frs (some s4) = true ∧ Frs (some s5) = true ∧ addAll t (itm rem) = tblOf (itm rows) ∧ t.length + rem.length ≤ 1000
def posR (r : Rw) : Bool := decide (0 < r.2.2)
theorem merged_ok (n : Nat) (count : Int) (rows : List Rw) (hl : rows.length ≤ 1000) : sem T (n+1) 53 [.int count, .list (rows.map eR)] = .ret (.v (eL ⟨count, (grp (itm rows)).filter posR⟩)) [] := by
  rw [sem_at (fd := a__law_merged) rfl]
  simp [runF, startE, a__law_merged, setS_eq]
  refine for_k (fun x => outF _ x = _) rows eR (I_mrg count rows) (by simp) ⟨[], .un, .un, .un, rfl, rfl, rfl, rfl, rfl, by simp; exact hl⟩ ?_ ?_
  · rintro r rem ρ ⟨t, s3, s4, s5, rfl, h3, h4, h5, ht, hn⟩
    have hitm : itm (r :: rem) = (key r, r.2.2) :: itm rem := rfl
    simp only [List.length_cons] at hn
    simp [asg, eR, setS_eq, h3, h4, h5]
    have e3 : PyData.tuple [.int r.1, .int r.2.1] = eK (key r) := rfl
    have e5 : (Option.map PyData.int (lookA t (key r))).getD (.int 0) = .int ((lookA t (key r)).getD 0) := by cases lookA t (key r) <;> rfl
    have e4 := putC_eTb (key r) ((lookA t (key r)).getD 0 + r.2.2) (t := t) (by unfold sizeLine; omega)
    simp [e3, e5, e4]
    exact ⟨_, _, _, _, rfl, rfl, rfl, rfl, by rw [← ht, hitm]; rfl, by have := len_put t (key r) ((lookA t (key r)).getD 0 + r.2.2); omega⟩
  · rintro ρ' ⟨t, s3, s4, s5, rfl, h3, h4, h5, ht, hn⟩
    have ht : t = tblOf (itm rows) := ht
    have hs := sort_keys (keysA t)
    have p := List.mergeSort_perm (keysA t) kLe
    have rest : evE (sem T n) (.lc (.bin .add (.var 6) (.tup (.cons (.ix (.var 2) (.var 6)) .nil))) (.nm 6) (.seq (.bi .sorted (.cons (.var 2) .nil))) (.cmp (.ix (.var 2) (.var 6)) (.one .gt (.lit (.int 0)))) [6])
        [.v (.int count), .v (.list (rows.map eR)), .ow false (.t (eTb t)), s3, s4, s5, .un] = .ok (.nw (.l (((grp (itm rows)).filter posR).map eR))) [.v (.int count), .v (.list (rows.map eR)), .ow false (.t (eTb t)), s3, s4, s5, .un] := by
      rw [lc_map ((keysA t).mergeSort kLe) eK (fun k => decide (0 < (lookA t k).getD 0)) (fun k => eR (k.1, k.2, (lookA t k).getD 0))]
      · have e6 : List.map (fun k => eR (k.1, k.2, (lookA t k).getD 0)) (((keysA t).mergeSort kLe).filter fun k => decide (0 < (lookA t k).getD 0)) = ((grp (itm rows)).filter posR).map eR := by
          unfold grp rowsOf
          rw [← ht, List.filter_map, List.map_map]
          rfl
        rw [e6]
      · simp
        rw [srtR_t (kvs := eTb t) (f := false) (by simp), keys_eTb, hs]
        simp
      · simp [freeE_cons]
      · intro k hk
        have hk' : k ∈ keysA t := p.mem_iff.mp hk
        have e7 := ixT_k t k hk'
        have e8 : eK k = .tuple [.int k.1, .int k.2] := rfl
        refine ⟨_, by simp [asg, wipeE, setS_eq]; rfl, by simp [wipeE], by simp [e7], fun _ => ?_⟩
        simp [e7]
        have e9 : binD .add (.tuple [.int k.1, .int k.2]) (.tuple [.int ((lookA t k).getD 0)]) = some (.v (.tuple [.int k.1, .int k.2, .int ((lookA t k).getD 0)])) := add_tt _ _ (by simp [sizeLine])
        simp [e8, sizeLine, eR, e9]
    simp [rest, sizeLine, eL]
theorem idx_map : ∀ {left : List Int} (m : Nat) {p : Int}, p ∈ left → (left.map PyData.int).findIdx? (fun z => PyData.eqv z (.int p)) = some (left.idxOf p)
  | [], _, p, h => by cases h
  | a :: left, m, p, h => by
    rw [List.map_cons, List.findIdx?_cons, List.idxOf_cons]
    by_cases e : a = p
    · subst e; simp [PyData.eqv]
    · have h' : p ∈ left := by rcases List.mem_cons.mp h with z | z; exact absurd z.symm e; exact z
      have := idx_map m h'
      have eb : (a == p) = false := by simpa using e
      simp [PyData.eqv, e, this, eb]
theorem idxD_ints {left : List Int} {p : Int} (h : p ∈ left) : idxD (.list (left.map .int)) (.int p) = some (left.idxOf p) := by
  show (if (isFlat (.int p) && (left.map PyData.int).all isFlat) = true then _ else none) = _
  rw [flat_ints]
  exact idx_map 0 h
theorem enum_get : ∀ (l : List Int) (n i : Nat) (h : i < l.length), (enumI n l)[i]? = some (((n + i : Nat) : Int), l[i])
  | a :: l, n, 0, _ => by simp [enumI]
  | a :: l, n, i + 1, h => by
    have := enum_get l (n + 1) i (by simpa using h)
    rw [enumI, List.getElem?_cons_succ, this]
    simp; omega
theorem enum_len : ∀ (l : List Int) (n : Nat), (enumI n l).length = l.length
  | [], _ => rfl
  | a :: l, n => by rw [enumI, List.length_cons, enum_len l (n + 1), List.length_cons]
theorem enum_idx {l : List Int} (nd : l.Nodup) : enumI 0 l = l.map fun p => (((l.idxOf p : Nat) : Int), p) := by
  refine List.ext_getElem? fun i => ?_
  by_cases h : i < l.length
  · rw [enum_get l 0 i h, List.getElem?_map, List.getElem?_eq_getElem h, Option.map_some, nd.idxOf_getElem i h]; simp
  · rw [List.getElem?_eq_none (by rw [enum_len]; omega), List.getElem?_eq_none (by rw [List.length_map]; omega)]
theorem held_idx {l : List Int} (nd : l.Nodup) (f t : Int) : (l.filter fun p => decide (f ≤ p) && decide (p ≤ t)).map (fun p => ((l.idxOf p : Nat) : Int)) = held l f t := by
  unfold held
  rw [enum_idx nd, List.filter_map, List.map_map]
  rfl
theorem min_rng {a b : Int} (h : a < b) : biD .min1 [.list ((rngI a b).map .int)] = some (.v (.int a)) := by
  have e : rngI a b = a :: rngI (a + 1) b := by
    unfold rngI
    have : (b - a).toNat = (b - (a + 1)).toNat + 1 := by omega
    rw [this, List.range_succ_eq_map, List.map_cons, List.map_map]
    congr 1
    · simp
    · refine List.map_congr_left fun i _ => ?_
      simp; omega
  have m := m_ints (α := Int) id (rngI a b)
  rw [List.map_id] at m
  show ((intsD ((rngI a b).map fun i => .int i)).bind fun ns => (foldI minI ns).map fun i => R.v (.int i)) = _
  rw [show (rngI a b).map (fun i => PyData.int i) = (rngI a b).map (fun x => PyData.int (id x)) from rfl, m, Option.bind_some, e]
  have : ∀ (l : List Int), (∀ x ∈ l, a ≤ x) → l.foldl minI a = a := fun l => by
    induction l with
    | nil => intro _; rfl
    | cons x l ih =>
      intro hl
      have hx := hl x (List.mem_cons_self ..)
      rw [List.foldl_cons]
      unfold minI
      rw [if_neg (by omega)]
      exact ih fun y hy => hl y (List.mem_cons_of_mem _ hy)
  show ((some ((rngI (a + 1) b).foldl minI a)).map fun i => R.v (.int i)) = _
  rw [this _ fun x hx => by have := mem_rngI.mp hx; omega]
  rfl
theorem max_rng {a b : Int} (h : a < b) : biD .max1 [.list ((rngI a b).map .int)] = some (.v (.int (b - 1))) := by
  have e : rngI a b = rngI a (b - 1) ++ [b - 1] := by
    have := rngI_snoc (a := a) (b := b - 1) (by omega)
    rw [show b - 1 + 1 = b by omega] at this
    exact this
  have m := m_ints (α := Int) id (rngI a b)
  rw [List.map_id] at m
  show ((intsD ((rngI a b).map fun i => .int i)).bind fun ns => (foldI maxI ns).map fun i => R.v (.int i)) = _
  rw [show (rngI a b).map (fun i => PyData.int i) = (rngI a b).map (fun x => PyData.int (id x)) from rfl, m, Option.bind_some, e]
  have le : ∀ (l : List Int) (x : Int), x ≤ b - 1 → (∀ y ∈ l, y ≤ b - 1) → l.foldl maxI x ≤ b - 1 := fun l => by
    induction l with
    | nil => intro x hx _; exact hx
    | cons y l ih =>
      intro x hx hl
      rw [List.foldl_cons]
      refine ih _ ?_ fun z hz => hl z (List.mem_cons_of_mem _ hz)
      have := hl y (List.mem_cons_self ..)
      unfold maxI; split <;> omega
  have fin : ∀ (l : List Int), (∀ y ∈ l, y ≤ b - 1) → foldI maxI (l ++ [b - 1]) = some (b - 1) := fun l hl => by
    cases l with
    | nil => rfl
    | cons x l =>
      show some ((l ++ [b - 1]).foldl maxI x) = _
      rw [List.foldl_append]
      have := le l x (hl x (List.mem_cons_self ..)) fun y hy => hl y (List.mem_cons_of_mem _ hy)
      show some (maxI (l.foldl maxI x) (b - 1)) = _
      congr 1
      generalize l.foldl maxI x = y at this ⊢
      unfold maxI; split <;> omega
  rw [fin _ fun x hx => by have := mem_rngI.mp hx; omega]
  rfl
end Tx

namespace Tx
open PySem PySem.Spec Sn Mx
def hits (S : List Int) (rows : List Rw) : List Rw := rows.filterMap fun r => (ph S (key r)).map fun k => (k.1, k.2, r.2.2)
theorem itm_hits (S : List Int) (rows : List Rw) : itm (hits S rows) = mapK (ph S) (itm rows) := by
  unfold itm hits mapK
  rw [List.map_filterMap, List.filterMap_map]
  congr 1
  funext r
  simp only [Function.comp_def, Option.map_map]
  rfl
theorem left_nd (S : List Int) (c : Int) : (leftOf S c).Nodup := ((rngI_asc 0 (c + 1)).imp fun h => by omega).filter _
theorem held_is {S : List Int} {c : Int} {k : K2} (h0 : 0 ≤ k.1) (h1 : k.1 ≤ k.2) (h2 : k.2 ≤ c) : ∃ a b : Int, held (leftOf S c) k.1 k.2 = rngI a b ∧ ph S k = if a < b then some (a, b - 1) else none := by
  have e := ends_held S h0 h1 h2
  obtain ⟨f, hf⟩ : ∃ f : Nat, k.1 = f := ⟨k.1.toNat, by omega⟩
  obtain ⟨l, hl⟩ : ∃ l : Nat, k.2 = l := ⟨k.2.toNat, by omega⟩
  obtain ⟨n, hn⟩ : ∃ n : Nat, c = n := ⟨c.toNat, by omega⟩
  have q : held (leftOf S c) k.1 k.2 = rngI (NN S (min f (n + 1))) (NN S (min (l + 1) (n + 1))) := by rw [hn, leftOf_nat, hf, hl, held_leftN S f l (by omega)]
  refine ⟨_, _, q, ?_⟩
  rw [← e, q, ends_rng]
def I_aft (L : Lay) (S : List Int) (rem : List Rw) (ρ : En) : Prop := ∃ pre s2 s4 s5 s6 s7, ρ = [.v (eL L), .v (eT S), s2, .ow false (.l ((hits S pre).map eR)), s4, s5, s6, s7, .un] ∧ (s2 = .ow false (.l ((leftOf S L.c).map .int)) ∨ s2 = .v (.list ((leftOf S L.c).map .int))) ∧
  Frs (some s4) = true ∧ Frs (some s5) = true ∧ Frs (some s6) = true ∧ Frs (some s7) = true ∧ pre ++ rem = L.rows ∧ ∀ r ∈ rem, goodR L.c r
theorem hits_len (S : List Int) (rows : List Rw) : (hits S rows).length ≤ rows.length := List.length_filterMap_le ..
theorem hits_app (S : List Int) (a : List Rw) (r : Rw) : hits S (a ++ [r]) = hits S a ++ match ph S (key r) with | some k => [(k.1, k.2, r.2.2)] | none => [] := by
  unfold hits
  rw [List.filterMap_append]
  congr 1
  rw [List.filterMap_cons]
  cases ph S (key r) <;> rfl
theorem pos_filter {items : List (K2 × Int)} (h : ∀ q ∈ items, 1 ≤ q.2) : (grp items).filter posR = grp items := by
  rw [List.filter_eq_self]
  intro r hr
  obtain ⟨h1, h2⟩ := mem_grp.mp hr
  have := (wt_pos h (key r)).2 h1
  unfold posR
  rw [h2]; simp; omega
theorem lawafter_ok (n : Nat) {L : Lay} {S : List Int} (h : WL L) (hS : VS L.c S) : sem T (n+2) 54 [eL L, eT S] = .ret (.v (eL (red L S))) [] := by
  have c0 := h.c0
  have c1 := h.c1
  have hlen := h.len
  have e0 : ixD (eL L) (.int 0) = some (.int L.c) := by simp [eL]
  have e1 : ixD (eL L) (.int 1) = some (.tuple (L.rows.map eR)) := by simp [eL]
  rw [sem_at (fd := a__law_after) rfl]
  show outF a__law_after (evS (sem T (n+1)) a__law_after.body [.v (eL L), .v (eT S), .un, .un, .un, .un, .un, .un, .un]) = _
  unfold a__law_after
  dsimp only
  rw [seq_nx (ρ' := [.v (eL L), .v (eT S), .ow false (.l ((leftOf S L.c).map .int)), .ow false (.l []), .un, .un, .un, .un, .un]) (by
    rw [s_par, rs_cons, lc_map (rngI 0 (L.c + 1)) .int (fun p => !decide (p ∈ S)) .int]
    · have e2 : List.map PyData.int (List.filter (fun p => !decide (p ∈ S)) (rngI 0 (L.c + 1))) = (leftOf S L.c).map .int := rfl
      simp [setS_eq, e2]
    · simp [e0, rngD_eq]
      exact rngOk_k (by omega) (by omega) (by omega) (by omega)
    · simp [freeE_cons]
    · intro a ha
      exact ⟨_, by simp [asg, wipeE, setS_eq]; rfl, by simp [wipeE], by simp [eT], fun _ => by simp⟩), s_seq]
  refine for_k (fun x => outF _ x = _) L.rows eR (I_aft L S) (by simp [e1]) ⟨[], _, .un, .un, .un, .un, rfl, .inl rfl, rfl, rfl, rfl, rfl, rfl, h.good⟩ ?_ ?_
  · rintro r rem ρ ⟨pre, s2, s4, s5, s6, s7, rfl, h2, h4, h5, h6, h7, hp, hm⟩
    obtain ⟨g1, g2, g3⟩ := hm r (List.mem_cons_self ..)
    obtain ⟨a, b, q1, q2⟩ := held_is (S := S) (c := L.c) (k := key r) g1 g2 g3
    refine ⟨_, by simp [asg, eR, setS_eq, h4, h5, h6]; rfl, ?_⟩
    have hh := held_idx (left_nd S L.c) r.1 r.2.1
    have hl : (hits S pre).length < sizeLine := by
      have := hits_len S pre
      have : pre.length ≤ L.rows.length := by rw [← hp, List.length_append]; omega
      unfold sizeLine; omega
    have st : evE (sem T (n+1)) (.lc (.index (.var 2) (.var 8)) (.nm 8) (.seq (.var 2)) (.and (.cons (.cmp (.var 4) (.one .le (.var 8))) (.cons (.cmp (.var 8) (.one .le (.var 5))) .nil))) [8])
        [.v (eL L), .v (eT S), s2, .ow false (.l ((hits S pre).map eR)), .v (.int r.1), .v (.int r.2.1), .v (.int r.2.2), s7, .un] =
        .ok (.nw (.l ((rngI a b).map .int))) [.v (eL L), .v (eT S), .v (.list ((leftOf S L.c).map .int)), .ow false (.l ((hits S pre).map eR)), .v (.int r.1), .v (.int r.2.1), .v (.int r.2.2), s7, .un] := by
      rw [lc_mapE [.v (eL L), .v (eT S), .v (.list ((leftOf S L.c).map .int)), .ow false (.l ((hits S pre).map eR)), .v (.int r.1), .v (.int r.2.1), .v (.int r.2.2), s7, .un]
        (leftOf S L.c) .int (fun p => decide (r.1 ≤ p) && decide (p ≤ r.2.1)) (fun p => .int ((leftOf S L.c).idxOf p : Nat))]
      · rw [← q1, show held (leftOf S L.c) (key r).1 (key r).2 = held (leftOf S L.c) r.1 r.2.1 from rfl, ← hh, List.map_map]
        rfl
      · rcases h2 with rfl | rfl <;> simp
      · simp [freeE_cons]
      · intro x hx
        exact ⟨_, by simp [asg, wipeE, setS_eq]; rfl, by simp [wipeE], by simp, fun _ => by simp [idxD_ints hx]⟩
    refine ⟨_, go_seq (by rw [s_set, st]; simp [setS_eq, h7]; rfl) (go_seq (ρ' := [.v (eL L), .v (eT S), .v (.list ((leftOf S L.c).map .int)), .ow false (.l ((hits S (pre ++ [r])).map eR)), .v (.int r.1), .v (.int r.2.1), .v (.int r.2.2), .ow false (.l ((rngI a b).map .int)), .un]) ?_ rfl), pre ++ [r], _, _, _, _, _, rfl, .inr rfl, rfl, rfl, rfl, rfl, by rw [← hp]; simp, fun x hx => hm x (List.mem_cons_of_mem _ hx)⟩
    rw [hits_app, q2]
    by_cases hab : a < b
    · have hne : rngI a b ≠ [] := by
        intro z
        have := mem_rngI.mpr (show a ≤ a ∧ a < b by omega)
        rw [z] at this; cases this
      have m1 := min_rng hab
      have m2 := max_rng hab
      simp [hab, hne, m1, m2, hl, eR]
    · have hne : rngI a b = [] := rngI_empty (by omega)
      have e := ne_nil []
      simp only [List.map_nil, decide_true, Bool.not_true] at e
      simp [hab, hne, e]
  · rintro ρ' ⟨pre, s2, s4, s5, s6, s7, rfl, h2, h4, h5, h6, h7, hp, _⟩
    have hp : pre = L.rows := by simpa using hp
    subst hp
    have m := merged_ok n ((leftOf S L.c).length - 1) (hits S L.rows) (Nat.le_trans (hits_len ..) hlen)
    have pf : ∀ q ∈ mapK (ph S) (itm L.rows), 1 ≤ q.2 := fun q hq => by
      unfold mapK at hq
      obtain ⟨x, hx, hy⟩ := List.mem_filterMap.mp hq
      obtain ⟨k, _, rfl⟩ := Option.map_eq_some_iff.mp hy
      unfold itm at hx
      obtain ⟨r, hr, rfl⟩ := List.mem_map.mp hx
      exact h.pos r hr
    rw [itm_hits, pos_filter pf] at m
    have ev : vS (some s2) = some (.list ((leftOf S L.c).map .int)) := by rcases h2 with rfl | rfl <;> rfl
    have fin : sem T (n+1) 53 [.int ((leftOf S L.c).length - 1), .list ((hits S L.rows).map eR)] = .ret (.v (eL (red L S))) [] := m
    rcases h2 with rfl | rfl <;> simp [fin]
end Tx

namespace Tx
open PySem PySem.Spec Sn Mx
def nDict : D → Bool
  | .dict _ => false
  | _ => true
def isI (d : D) (lo hi : Int) : Bool := match d with
  | .int v => inB v lo hi
  | _ => false
@[simp] theorem isI_int (v lo hi : Int) : isI (.int v) lo hi = inB v lo hi := rfl
theorem isTup_any {d : D} (h : nDict d = true) : biD .isTup [d] = some (.v (.bool (match d with | .tuple _ => true | _ => false))) := by
  cases d <;> first | rfl | cases h
theorem isInt_any {d : D} (h : nDict d = true) : biD .isInt [d] = some (.v (.bool (match d with | .int _ => true | .bool _ => true | _ => false))) := by
  cases d <;> first | rfl | cases h
theorem isBool_any {d : D} (h : nDict d = true) : biD .isBool [d] = some (.v (.bool (match d with | .bool _ => true | _ => false))) := by
  cases d <;> first | rfl | cases h
theorem is_integer_any (n : Nat) {d : D} (lo hi : Int) (h : nDict d = true) : sem T (n+1) 0 [d, .int lo, .int hi] = .ret (.v (.bool (isI d lo hi))) [] := by
  rw [sem_at (fd := a_is_integer) rfl]
  have e1 := isInt_any h
  have e2 := isBool_any h
  cases d <;> first
    | (simp [runF, startE, a_is_integer, e1, e2, isI, inB]; done)
    | cases h
def dLt (a b : D) : Bool := match a, b with
  | .int i, .int j => decide (i < j)
  | _, _ => false
def setOk (c : Int) (d : D) : Bool := match d with
  | .tuple ds => ds.all (fun x => isI x 0 (c - 1)) && adj dLt ds
  | _ => false
theorem isI_all {lo hi : Int} : ∀ {ds : List D}, ds.all (fun x => isI x lo hi) = true → ∃ S : List Int, ds = S.map .int ∧ ∀ v ∈ S, inB v lo hi = true
  | [], _ => ⟨[], rfl, fun _ h => by cases h⟩
  | d :: ds, h => by
    rw [List.all_cons, Bool.and_eq_true] at h
    obtain ⟨S, rfl, hS⟩ := isI_all h.2
    cases d with
    | int v => exact ⟨v :: S, rfl, fun x hx => by rcases List.mem_cons.mp hx with rfl | hx; exact h.1; exact hS x hx⟩
    | _ => cases h.1
theorem adj_ints : ∀ S : List Int, adj dLt (S.map PyData.int) = adj (fun a b => decide (a < b)) S
  | [] => rfl
  | [_] => rfl
  | a :: b :: r => by
    have := adj_ints (b :: r)
    simp only [List.map_cons, adj] at this ⊢
    rw [this]; rfl
theorem require_set_any (n : Nat) (c : Int) {d : D} (h : nDict d = true) (h2 : ∀ ds, d = .tuple ds → ∀ x ∈ ds, nDict x = true) : sem T (n+2) 5 [.int c, d] = if setOk c d = true then .ret (.v .none) [] else .ex "InvalidSet" := by
  rw [sem_at (fd := a_require_set) rfl]
  have e1 := isTup_any h
  cases d with
  | tuple ds =>
    have hx := h2 ds rfl
    simp [runF, startE, a_require_set]
    rw [lc_all ds id (fun r => .bool (isI r 0 (c - 1)))]
    · simp only [bnd_ok, opr_nw, vw_v, opt_some, m_all]
      cases q : ds.all fun x => isI x 0 (c - 1) with
      | false =>
        have : setOk c (.tuple ds) = false := by unfold setOk; simp only []; rw [q]; rfl
        simp [q, this]
      | true =>
        obtain ⟨S, rfl, hS⟩ := isI_all q
        have := ok_asc_t n .int (fun a b => decide (a < b)) (fun a b => rfl) S
        have e2 : setOk c (.tuple (S.map .int)) = adj (fun a b => decide (a < b)) S := by unfold setOk; simp only []; rw [q, adj_ints]; rfl
        rw [e2]
        cases q2 : adj (fun a b => decide (a < b)) S <;> simp [q, this, q2]
    · simp
    · simp [freeE_cons]
    · intro a ha
      exact ⟨_, by simp [asg, wipeE, setS_eq]; rfl, by simp [wipeE], by simp [is_integer_any _ _ _ (hx a ha)]⟩
  | dict _ => cases h
  | _ => simp [runF, startE, a_require_set, e1, setOk]
theorem freed_odd (n : Nat) {L : Lay} (hL : WL L) {d : D} (h : nDict d = true) (h2 : ∀ ds, d = .tuple ds → ∀ x ∈ ds, nDict x = true) (hb : setOk L.c d = false) : sem T (n+5) 8 [eL L, d] = .ex "InvalidSet" := by
  rw [sem_at (fd := a_freed) rfl]
  have e : ixD (eL L) (.int 0) = some (.int L.c) := by simp [eL]
  have r := require_set_any (n+2) L.c h h2
  rw [hb] at r
  simp [runF, startE, a_freed, ok_require_layout _ L (lay_ok hL), e, r]
theorem enm_set : enm "InvalidSet" = some "set" := by decide +kernel
theorem outcome_k02 (n : Nat) {L : Lay} (hL : WL L) {d : D} (h : nDict d = true) (h2 : ∀ ds, d = .tuple ds → ∀ x ∈ ds, nDict x = true) (hb : setOk L.c d = false) : sem T (n+6) 56 [eL L, d] = .ret (.v (.str "set")) [] := by
  rw [sem_at (fd := a__law_outcome_k02) rfl]
  have f := freed_odd n hL h h2 hb
  simp [runF, startE, a__law_outcome_k02, f, tryF_ex enm_set]
end Tx

namespace Mx
open PySem L2 Sn
variable {Φ : Nat → List D → Out} {ρ : En} {α β : Type}
def cmpSl (o : Cop) (x : R) (s : Option Sl) (ρ : En) : Option Bool := match o, vC s with
  | .inn, some (.t kvs) => (vw ρ x).bind fun x => (getC (.t kvs) x).map Option.isSome
  | .inn, some (.k kvs) => (vw ρ x).bind fun x => (getC (.k kvs) x).map Option.isSome
  | .notIn, some (.t kvs) => (vw ρ x).bind fun x => (getC (.t kvs) x).map fun r => !r.isSome
  | .notIn, some (.k kvs) => (vw ρ x).bind fun x => (getC (.k kvs) x).map fun r => !r.isSome
  | o, _ => (vw ρ x).bind fun x => (vS s).bind fun y => cmpD o x y
@[simp] theorem cmpR_sl (o : Cop) (x : R) (i : Nat) : cmpR o x (.sl i) ρ = cmpSl o x ρ[i]? ρ := by
  unfold cmpR cmpSl
  simp only [vwC_sl, vw_sl] <;> cases o <;> rcases ρ[i]? with _ | (_ | _ | ⟨_, (_ | _ | _)⟩ | _) <;> rfl
@[simp] theorem cmpSl_l (o : Cop) (x : R) (f : Bool) (xs : List D) : cmpSl o x (some (.ow f (.l xs))) ρ = (vw ρ x).bind fun a => cmpD o a (.list xs) := by
  unfold cmpSl; cases o <;> simp
@[simp] theorem cmpSl_v (o : Cop) (x : R) (d : D) : cmpSl o x (some (.v d)) ρ = (vw ρ x).bind fun a => cmpD o a d := by
  unfold cmpSl; cases o <;> simp
@[simp] theorem cmpSl_it (x : R) (f : Bool) (kvs : List (List Key × D)) : cmpSl .inn x (some (.ow f (.t kvs))) ρ = (vw ρ x).bind fun x => (getC (.t kvs) x).map Option.isSome := rfl
@[simp] theorem cmpSl_ik (x : R) (f : Bool) (kvs : List (Key × D)) : cmpSl .inn x (some (.ow f (.k kvs))) ρ = (vw ρ x).bind fun x => (getC (.k kvs) x).map Option.isSome := rfl
@[simp] theorem cmpSl_nt (x : R) (f : Bool) (kvs : List (List Key × D)) : cmpSl .notIn x (some (.ow f (.t kvs))) ρ = (vw ρ x).bind fun x => (getC (.t kvs) x).map fun r => !r.isSome := rfl
@[simp] theorem cmpSl_nk (x : R) (f : Bool) (kvs : List (Key × D)) : cmpSl .notIn x (some (.ow f (.k kvs))) ρ = (vw ρ x).bind fun x => (getC (.k kvs) x).map fun r => !r.isSome := rfl
theorem eqv_intsD (l m : List Int) : PyData.eqvAll (l.map .int) (m.map .int) = decide (l = m) := by
  induction l generalizing m with
  | nil => cases m with
    | nil => simp [PyData.eqvAll]
    | cons b m => simp [PyData.eqvAll]
  | cons a l ih => cases m with
    | nil => simp [PyData.eqvAll]
    | cons b m =>
      rw [List.map_cons, List.map_cons, PyData.eqvAll, ih m, PyData.eqv]
      by_cases e : a = b <;> by_cases e2 : l = m <;> simp [e, e2]
theorem ne_ints (l m : List Int) : cmpD .ne (.list (l.map .int)) (.list (m.map .int)) = some (!decide (l = m)) := by
  show (if (SeqAt.shaped (.list (l.map .int)) && SeqAt.shaped (.list (m.map .int))) = true then some (!PyData.eqv (.list (l.map .int)) (.list (m.map .int))) else none) = _
  rw [shp_ints, shp_ints, show (true && true) = true from rfl, if_pos rfl, PyData.eqv, eqv_intsD]
theorem shp_intsT (l : List Int) : SeqAt.shaped (.tuple (l.map .int)) = true := by
  unfold SeqAt.shaped
  rw [PyData.canLay0, canLay_ints, PyData.depth, depth_ints]; rfl
theorem ne_intsT (l m : List Int) : cmpD .ne (.tuple (l.map .int)) (.tuple (m.map .int)) = some (!decide (l = m)) := by
  show (if (SeqAt.shaped (.tuple (l.map .int)) && SeqAt.shaped (.tuple (m.map .int))) = true then some (!PyData.eqv (.tuple (l.map .int)) (.tuple (m.map .int))) else none) = _
  rw [shp_intsT, shp_intsT, show (true && true) = true from rfl, if_pos rfl, PyData.eqv, eqv_intsD]
theorem set_swap {i j : Nat} (h : i ≠ j) (l : En) (a b c : Sl) : (((l.set i a).set j b).set i c) = (l.set i c).set j b := by
  refine List.ext_getElem? fun k => ?_
  simp only [List.getElem?_set, List.length_set]
  by_cases e1 : i = k
  · subst e1
    have : ¬ j = i := fun z => h z.symm
    simp [this]
  · by_cases e2 : j = k
    · subst e2; simp [e1]
    · simp [e1, e2]
theorem set_same {j : Nat} {l : En} {a : Sl} (h : l[j]? = some a) : l.set j a = l := by
  refine List.ext_getElem? fun k => ?_
  rw [List.getElem?_set]
  by_cases e : j = k
  · subst e
    have := (List.getElem?_eq_some_iff.mp h).1
    simp only [if_true, this]
    exact h.symm
  · simp [e]
/-- a comprehension whose turns draw from a source in slot i -/
theorem lc_draw {elt : Ex} {i j : Nat} {f : Bool} {it : Sn.It} (G : D → Prop) (l : List D) (io : List D) (hio : Src io) (hij : i ≠ j) (hi : ρ[i]? = some (.ow f (.l io))) (hj : Fre ρ[j]? = true) (hev : evI Φ it ρ = .ok l ρ)
    (step : ∀ (io : List D) (x : D), Src io → ∃ io' d, Src io' ∧ G d ∧ bnd (evE Φ elt ((ρ.set i (.ow f (.l io))).set j (.v x))) frz = .ok d (((ρ.set i (.ow f (.l io))).set j (.v x)).set i (.ow f (.l io')))) :
    ∃ io' ds, Src io' ∧ (∀ d ∈ ds, G d) ∧ ds.length = l.length ∧ evE Φ (.lc elt (.nm j) it (.lit (.bool true)) [j]) ρ = .ok (.nw (.l ds)) (ρ.set i (.ow f (.l io'))) := by
  have lj : j < ρ.length := by
    by_cases h : j < ρ.length
    · exact h
    · rw [List.getElem?_eq_none (by omega)] at hj; cases hj
  have main : ∀ (l acc : List D) (io : List D) (s : Sl), Src io → ∃ io' ds s', Src io' ∧ (∀ d ∈ ds, G d) ∧ ds.length = l.length ∧
      lcL [j] (.nm j) (fun ρ => bnd (evE Φ (.lit (.bool true)) ρ) toB) (fun ρ => bnd (evE Φ elt ρ) frz) l acc ((ρ.set i (.ow f (.l io))).set j s) = .ok (acc ++ ds) ((ρ.set i (.ow f (.l io'))).set j s') := by
    intro l
    induction l with
    | nil => intro acc io s h; exact ⟨io, [], s, h, (fun _ z => by cases z), rfl, by simp [lcL]⟩
    | cons x l ih =>
      intro acc io s h
      obtain ⟨io1, d, a1, a2, a3⟩ := step io x h
      obtain ⟨io2, ds, s2, b1, b2, b3, b4⟩ := ih (acc ++ [d]) io1 (.v x) a1
      refine ⟨io2, d :: ds, s2, b1, fun y hy => ?_, by simp [b3], ?_⟩
      · rcases List.mem_cons.mp hy with rfl | hy
        · exact a2
        · exact b2 y hy
      · have e1 : asg (.nm j) x (wipeE ((ρ.set i (.ow f (.l io))).set j s) [j]) = .ok () ((ρ.set i (.ow f (.l io))).set j (.v x)) := by
          have : wipeE ((ρ.set i (.ow f (.l io))).set j s) [j] = (ρ.set i (.ow f (.l io))).set j .un := by
            show (((ρ.set i (.ow f (.l io))).set j s).set j .un) = _
            rw [List.set_set]
          rw [this]
          show setS j (.v x) _ = _
          rw [setS_k (by rw [List.getElem?_set_self (by rw [List.length_set]; exact lj)]; rfl), List.set_set]
        rw [lcL, e1]
        have b5 := b4
        simp only [e_lit, bnd_ok, toB_b] at b5 ⊢
        simp only [noX_k, bnd_ok, if_true, a3]
        rw [set_swap hij, b5]
        simp
  obtain ⟨io', ds, s', q1, q2, q3, q4⟩ := main l [] io (ρ.getD j .un) hio
  have e0 : (ρ.set i (.ow f (.l io))).set j (ρ.getD j .un) = ρ := by
    rw [set_same hi]
    refine set_same ?_
    rw [List.getD_eq_getElem?_getD, List.getElem?_eq_getElem lj]; rfl
  rw [e0] at q4
  refine ⟨io', ds, q1, q2, q3, ?_⟩
  rw [evE, hev]
  simp only [bnd_ok]
  rw [if_pos (by rw [freeE_cons, hj]; rfl), q4]
  simp only [bnd_ok, List.nil_append]
  have : backE ρ [j] ((ρ.set i (.ow f (.l io'))).set j s') = ρ.set i (.ow f (.l io')) := by
    show ((ρ.set i (.ow f (.l io'))).set j s').set j (ρ.getD j .un) = _
    rw [List.set_set]
    refine set_same ?_
    rw [List.getElem?_set_ne hij, List.getD_eq_getElem?_getD, List.getElem?_eq_getElem lj]; rfl
  rw [this]
end Mx
namespace Tx
open PySem PySem.Spec Sn Mx
/-- sets, drawn -/
theorem lc_sets (n : Nat) {ρ : En} {i j cnt : Nat} {f : Bool} {io : List D} {c m : Int} (hio : Src io) (h0 : 0 ≤ c) (h1 : c ≤ 10) (hm0 : 0 ≤ m) (hm : m ≤ 1000) (hij : i ≠ j) (hic : i ≠ cnt) (hjc : j ≠ cnt) (hi : ρ[i]? = some (.ow f (.l io))) (hj : Fre ρ[j]? = true) (hc : ρ[cnt]? = some (.v (.int c))) :
    ∃ (io' : List D) (F : List (List Int)), Src io' ∧ (∀ P ∈ F, VS c P) ∧ F.length = m.toNat ∧ evE (sem T (n+2)) (.lc (.callIO 55 i (.cons (.var cnt) .nil)) (.nm j) (.rng (.lit (.int 0)) (.lit (.int m))) (.lit (.bool true)) [j]) ρ = .ok (.nw (.l (F.map eT))) (ρ.set i (.ow f (.l io'))) := by
  have li : i < ρ.length := (List.getElem?_eq_some_iff.mp hi).1
  obtain ⟨io', ds, q1, q2, q3, q4⟩ := lc_draw (Φ := sem T (n+2)) (elt := .callIO 55 i (.cons (.var cnt) .nil)) (it := .rng (.lit (.int 0)) (.lit (.int m))) (fun d => ∃ P, VS c P ∧ d = eT P) (rngD 0 m) io hio hij hi hj (by simp; exact rngOk_k (by omega) (by omega) (by omega) (by omega)) (fun io x h => by
    obtain ⟨j', P, a1, a2, a3⟩ := set_drawn n h h0 h1
    refine ⟨j', eT P, a1, ⟨P, a2, rfl⟩, ?_⟩
    have g1 : ((ρ.set i (.ow f (.l io))).set j (.v x))[i]? = some (.ow f (.l io)) := by rw [List.getElem?_set_ne (Ne.symm hij), List.getElem?_set_self li]
    have g2 : ((ρ.set i (.ow f (.l io))).set j (.v x))[cnt]? = some (.v (.int c)) := by rw [List.getElem?_set_ne hjc, List.getElem?_set_ne hic]; exact hc
    simp [g1, g2, a3])
  have : ∀ ds : List D, (∀ d ∈ ds, ∃ P, VS c P ∧ d = eT P) → ∃ F : List (List Int), (∀ P ∈ F, VS c P) ∧ ds = F.map eT := fun ds => by
    induction ds with
    | nil => intro _; exact ⟨[], (fun _ h => by cases h), rfl⟩
    | cons d ds ih =>
      intro h
      obtain ⟨F, a, rfl⟩ := ih fun y hy => h y (List.mem_cons_of_mem _ hy)
      obtain ⟨P, b, rfl⟩ := h d (List.mem_cons_self ..)
      exact ⟨P :: F, fun Q hQ => by rcases List.mem_cons.mp hQ with rfl | hQ; exact b; exact a Q hQ, rfl⟩
  obtain ⟨F, a, rfl⟩ := this ds q2
  exact ⟨io', F, q1, a, by rw [List.length_map] at q3; rw [q3, rngD_len]; simp, q4⟩
end Tx

namespace Tx
open PySem PySem.Spec Sn Mx
theorem sum_ints (l : List Int) : biD .sum [.list (l.map .int)] = some (.v (.int l.sum)) := by
  have := m_sum (α := Int) id l
  rw [List.map_id] at this
  exact this
/-- one set of the law -/
theorem inner_ok (n : Nat) {L : Lay} {S : List Int} {io : List D} {s0 s1 s5 s7 s8 s9 s10 : Sl} (hL : WL L) (hS : VS L.c S) (hio : Src io) (h7 : Frs (some s7) = true) (h8 : Frs (some s8) = true) (h9 : Frs (some s9) = true) (h10 : Frs (some s10) = true) {b : Sx}
    (hb : b = (.seq (.set 7 (.lc (.call 8 (.cons (.var 3) (.cons (.tupRg (.var 12) (.bin .add (.var 13) (.lit (.int 1)))) .nil))) (.tp (.cs (.nm 12) (.cs (.nm 13) .nl))) (.seq (.call 59 (.cons (.var 6) .nil))) (.lit (.bool true)) [12, 13]))
    (.seq (.ite (.cmp (.call 8 (.cons (.var 3) (.cons (.var 6) .nil))) (.one .ne (.bi .sum (.cons (.var 7) .nil)))) (.seq (.ret (.lit (.bool false)))
    .skip) .skip)
    (.seq (.ite (.cmp (.callIO 60 2 (.cons (.var 3) (.cons (.var 6) .nil))) (.one .ne (.tup (.cons (.call 8 (.cons (.var 3) (.cons (.var 6) .nil))) (.cons (.call 10 (.cons (.var 3) (.cons (.var 6) .nil))) .nil))))) (.seq (.ret (.lit (.bool false)))
    .skip) .skip)
    (.seq (.set 8 (.callIO 55 2 (.cons (.var 4) .nil)))
    (.seq (.set 9 (.bi .tuple (.cons (.bi .srtSet (.cons (.bin .add (.var 6) (.var 8)) .nil)) .nil)))
    (.seq (.set 10 (.bi .tuple (.cons (.lc (.var 14) (.nm 14) (.seq (.var 6)) (.cmp (.var 14) (.one .inn (.var 8))) [14]) .nil)))
    (.seq (.ite (.cmp (.bin .add (.call 8 (.cons (.var 3) (.cons (.var 9) .nil))) (.call 8 (.cons (.var 3) (.cons (.var 10) .nil)))) (.one .lt (.bin .add (.call 8 (.cons (.var 3) (.cons (.var 6) .nil))) (.call 8 (.cons (.var 3) (.cons (.var 8) .nil)))))) (.seq (.ret (.lit (.bool false)))
    .skip) .skip)
    (.seq (.ite (.cmp (.call 8 (.cons (.var 3) (.cons (.var 9) .nil))) (.one .lt (.call 8 (.cons (.var 3) (.cons (.var 6) .nil))))) (.seq (.ret (.lit (.bool false)))
    .skip) .skip)
    .skip))))))))) :
    ∃ (io' : List D) (t7 t8 t9 t10 : Sl), Src io' ∧ Frs (some t7) = true ∧ Frs (some t8) = true ∧ Frs (some t9) = true ∧ Frs (some t10) = true ∧
      evS (sem T (n+6)) b [s0, s1, .ow false (.l io), .v (eL L), .v (.int L.c), s5, .v (eT S), s7, s8, s9, s10, .un, .un, .un, .un] =
      .ok .nx [s0, s1, .ow false (.l io'), .v (eL L), .v (.int L.c), s5, .v (eT S), t7, t8, t9, t10, .un, .un, .un, .un] := by
  subst hb
  obtain ⟨ps, hps, e1⟩ := st_parts n (s0 := s0) (s1 := s1) (s5 := s5) (s8 := s8) (s9 := s9) (s10 := s10) (io := io) hL hS h7
  have fS := freed_w (n+1) hL hS
  have aS := after_w (n+1) hL hS
  obtain ⟨j, hj, eo⟩ := obo_ok n hL hS hio
  obtain ⟨j2, U, hj2, hU, es⟩ := set_drawn (n+4) hj hL.c0 hL.c1
  have fU := freed_w (n+1) hL hU
  have hB := hS.union hU
  have fB := freed_w (n+1) hL hB
  have hM := hS.common (fun p => decide (p ∈ U))
  have fM := freed_w (n+1) hL hM
  have l1 := vs_len hS hL.c1
  have l2 := vs_len hU hL.c1
  have sup := frd_super (S := S) (U := U) (B := setI (S ++ U)) (M := S.filter fun p => decide (p ∈ U)) (fun p hp => (mem_setI p _).mpr (List.mem_append.mpr hp)) (fun p h1 h2 => List.mem_filter.mpr ⟨h1, by simpa using h2⟩) hL.pos
  have mon := frd_mono (S := S) (U := setI (S ++ U)) (fun p hp => (mem_setI p _).mpr (List.mem_append.mpr (.inl hp))) hL.pos
  have e9 : binD .add (eT S) (eT U) = some (.v (.tuple ((S ++ U).map .int))) := by
    unfold eT
    rw [add_tt _ _ (by rw [List.length_map, List.length_map]; unfold sizeLine; omega), List.map_append]
  have e10 := setD_t (S ++ U) (by rw [List.length_append]; omega)
  refine ⟨j2, .ow false (.l (ps.map .int)), .v (eT U), .v (eT (setI (S ++ U))), .v (eT (S.filter fun p => decide (p ∈ U))), hj2, rfl, rfl, rfl, rfl, ?_⟩
  rw [seq_nx e1]
  rw [seq_nx (ρ' := [s0, s1, .ow false (.l io), .v (eL L), .v (.int L.c), s5, .v (eT S), .ow false (.l (ps.map .int)), s8, s9, s10, .un, .un, .un, .un]) (by simp [fS, sum_ints, hps])]
  rw [seq_nx (ρ' := [s0, s1, .ow false (.l j), .v (eL L), .v (.int L.c), s5, .v (eT S), .ow false (.l (ps.map .int)), s8, s9, s10, .un, .un, .un, .un]) (by simp [eo, fS, aS, ne_same])]
  rw [seq_nx (ρ' := [s0, s1, .ow false (.l j2), .v (eL L), .v (.int L.c), s5, .v (eT S), .ow false (.l (ps.map .int)), .v (eT U), s9, s10, .un, .un, .un, .un]) (by simp [es, setS_eq, h8])]
  rw [seq_nx (ρ' := [s0, s1, .ow false (.l j2), .v (eL L), .v (.int L.c), s5, .v (eT S), .ow false (.l (ps.map .int)), .v (eT U), .v (eT (setI (S ++ U))), s10, .un, .un, .un, .un]) (by
    simp only [s_set, e_tuple, e_srtSet, e_bin, e_var, List.getElem?_cons_succ, List.getElem?_cons_zero, gV_v, bnd_ok, opr_v, vw_v, opt_some, e9, e10, opr_nw, tup_l, setR_v]
    simp [setS_eq, h9, eT])]
  rw [seq_nx (ρ' := [s0, s1, .ow false (.l j2), .v (eL L), .v (.int L.c), s5, .v (eT S), .ow false (.l (ps.map .int)), .v (eT U), .v (eT (setI (S ++ U))), .v (eT (S.filter fun p => decide (p ∈ U))), .un, .un, .un, .un]) (by
    rw [s_set, e_tuple, lc_map S .int (fun p => decide (p ∈ U)) .int]
    · simp [setS_eq, h10, eT]
    · simp [eT]
    · simp [freeE_cons]
    · intro a ha
      exact ⟨_, by simp [asg, wipeE, setS_eq]; rfl, by simp [wipeE], by simp [eT], fun _ => by simp⟩)]
  rw [seq_nx (ρ' := [s0, s1, .ow false (.l j2), .v (eL L), .v (.int L.c), s5, .v (eT S), .ow false (.l (ps.map .int)), .v (eT U), .v (eT (setI (S ++ U))), .v (eT (S.filter fun p => decide (p ∈ U))), .un, .un, .un, .un]) (by
    have : ¬ (frd (setI (S ++ U)) L.rows + frd (S.filter fun p => decide (p ∈ U)) L.rows < frd S L.rows + frd U L.rows) := by omega
    simp [fB, fM, fS, fU, this])]
  rw [seq_nx (ρ' := [s0, s1, .ow false (.l j2), .v (eL L), .v (.int L.c), s5, .v (eT S), .ow false (.l (ps.map .int)), .v (eT U), .v (eT (setI (S ++ U))), .v (eT (S.filter fun p => decide (p ∈ U))), .un, .un, .un, .un]) (by
    have : ¬ (frd (setI (S ++ U)) L.rows < frd S L.rows) := by omega
    simp [fB, fS, this])]
  rw [s_skip]
end Tx

namespace Tx
open PySem PySem.Spec Sn Mx
def I_in (s0 s1 s5 : Sl) (L : Lay) (rem : List (List Int)) (ρ : En) : Prop := ∃ io s6 s7 s8 s9 s10, Src io ∧ ρ = [s0, s1, .ow false (.l io), .v (eL L), .v (.int L.c), s5, s6, s7, s8, s9, s10, .un, .un, .un, .un] ∧
  Frs (some s6) = true ∧ Frs (some s7) = true ∧ Frs (some s8) = true ∧ Frs (some s9) = true ∧ Frs (some s10) = true ∧ ∀ P ∈ rem, VS L.c P
def I_law (ns : List Int) (rem : List Int) (ρ : En) : Prop := ∃ s1 s2 s3 s4 s5 s6 s7 s8 s9 s10, ρ = [.v (scr (ns.map .int)), s1, s2, s3, s4, s5, s6, s7, s8, s9, s10, .un, .un, .un, .un] ∧
  (Frs (some s1) = true ∧ Frs (some s2) = true ∧ Frs (some s3) = true ∧ Frs (some s4) = true ∧ Frs (some s5) = true) ∧
  (Frs (some s6) = true ∧ Frs (some s7) = true ∧ Frs (some s8) = true ∧ Frs (some s9) = true ∧ Frs (some s10) = true) ∧ ∀ k ∈ rem, 0 ≤ k ∧ k < 1000

theorem law_step (ns : List Int) (hns : ns.length ≤ 63) : ∃ m : Int, 0 ≤ m ∧ m ≤ 1000 ∧ evI (sem T 15) (.rng (.lit (.int 0)) (.bi .max2 (.cons (.lit (.int 6)) (.cons (.bi .min2 (.cons (.lit (.int 30)) (.cons (.bi .len (.cons (.var 0) .nil)) .nil))) .nil)))) [.v (scr (ns.map .int)), .un, .un, .un, .un, .un, .un, .un, .un, .un, .un, .un, .un, .un, .un] =
    .ok ((rngI 0 m).map .int) [.v (scr (ns.map .int)), .un, .un, .un, .un, .un, .un, .un, .un, .un, .un, .un, .un, .un, .un] := by
  have len : biD .len [scr (ns.map .int)] = some (.v (.int ns.length)) := by
    show some (R.v (.int ((ns.map PyData.int).length : Nat))) = _
    rw [List.length_map]
  obtain ⟨a, ha, ea⟩ : ∃ a : Int, a ≤ 30 ∧ biD .min2 [.int 30, .int ns.length] = some (.v (.int a)) := ⟨_, by split <;> omega, rfl⟩
  obtain ⟨m, hm0, hm, em⟩ : ∃ m : Int, 0 ≤ m ∧ m ≤ 30 ∧ biD .max2 [.int 6, .int a] = some (.v (.int m)) := ⟨_, by split <;> omega, by split <;> omega, rfl⟩
  refine ⟨m, hm0, by omega, ?_⟩
  have rk := rngOk_k (a := 0) (b := m) (by omega) (by omega) (by omega) (by omega)
  simp [len, ea, em, rk, rngD_eq]

theorem written : sem T 15 8 [.tuple [.int 2, .tuple [.tuple [.int 0, .int 1, .int 10], .tuple [.int 1, .int 1, .int 4]]], .tuple [.int 0, .int 1]] = .ret (.v (.int 14)) [] := by
  have h := ok_freed 10 ⟨2, [(0, 1, 10), (1, 1, 4)]⟩ [0, 1] (by decide +kernel) (by decide +kernel)
  have e : frd [0, 1] [(0, 1, 10), (1, 1, 4)] = 14 := by decide +kernel
  rw [e] at h
  exact h
end Tx

namespace Tx
open PySem PySem.Spec Sn Mx
theorem pick_lay {io : List D} (hio : Src io) : ∃ (io' : List D) (L : Lay), Src io' ∧ WL L ∧ ∀ (s0 s1 s3 s4 s5 s6 s7 s8 s9 s10 : Sl), Frs (some s3) = true →
    evS (sem T 15) (.set 3 (.callIO 45 2 (.cons (.ix (.lst (.cons (.lit (.int 4)) (.cons (.lit (.int 10)) .nil))) (.callIO 39 2 (.cons (.lit (.int 2)) .nil))) .nil))) [s0, s1, .ow false (.l io), s3, s4, s5, s6, s7, s8, s9, s10, .un, .un, .un, .un] =
      .ok .nx [s0, s1, .ow false (.l io'), .v (eL L), s4, s5, s6, s7, s8, s9, s10, .un, .un, .un, .un] := by
  obtain ⟨v, j, v0, v1, hj, ev⟩ := pick_ok 14 hio (size := 2) (by omega) (by omega)
  obtain ⟨m, m0, m1, em⟩ : ∃ m : Int, 0 ≤ m ∧ m ≤ 10 ∧ ixD (.list [.int 4, .int 10]) (.int v) = some (.int m) := by
    have : v = 0 ∨ v = 1 := by omega
    rcases this with rfl | rfl
    · exact ⟨4, by omega, by omega, rfl⟩
    · exact ⟨10, by omega, by omega, rfl⟩
  obtain ⟨j2, L, h1, h2, _, e⟩ := lay_drawn 13 hj m0 m1
  exact ⟨j2, L, h1, h2, fun s0 s1 s3 s4 s5 s6 s7 s8 s9 s10 h3 => by simp [ev, em, e, setS_eq, h3]⟩
end Tx

namespace Tx
open PySem PySem.Spec Sn Mx
theorem pick_sets {io : List D} {L : Lay} (hio : Src io) (hL : WL L) (s0 s1 s5 s6 s7 s8 s9 s10 : Sl) (h5 : Frs (some s5) = true) : ∃ (io' : List D) (F : List (List Int)), Src io' ∧ (∀ P ∈ F, VS L.c P) ∧
    evS (sem T 15) (.set 5 (.ite (.cmp (.var 4) (.one .lt (.lit (.int 5)))) (.call 58 (.cons (.listRg (.lit (.int 0)) (.var 4)) .nil)) (.lc (.callIO 55 2 (.cons (.var 4) .nil)) (.nm 11) (.rng (.lit (.int 0)) (.lit (.int 8))) (.lit (.bool true)) [11]))) [s0, s1, .ow false (.l io), .v (eL L), .v (.int L.c), s5, s6, s7, s8, s9, s10, .un, .un, .un, .un] =
      .ok .nx [s0, s1, .ow false (.l io'), .v (eL L), .v (.int L.c), .ow false (.l (F.map eT)), s6, s7, s8, s9, s10, .un, .un, .un, .un] := by
  have c0 := hL.c0
  have c1 := hL.c1
  by_cases hc : L.c < 5
  · obtain ⟨F, hF, e⟩ := subsets_ok 14 c0 c1
    have rk := rngOk_k (a := 0) (b := L.c) (by omega) (by omega) (by omega) (by omega)
    exact ⟨io, F, hio, hF, by simp [hc, rk, rngD_eq, e, setS_eq, h5]⟩
  · obtain ⟨j, G, s', h1, h2, e⟩ := sets_loop 13 c0 c1 s0 s1 (.v (eL L)) (.v (.int L.c)) s5 s6 s7 s8 s9 s10 .un .un .un rfl (rngI 0 8) [] io .un hio (fun _ h => by cases h)
    refine ⟨j, G, h1, h2, ?_⟩
    have hlc : evE (sem T 15) (.lc (.callIO 55 2 (.cons (.var 4) .nil)) (.nm 11) (.rng (.lit (.int 0)) (.lit (.int 8))) (.lit (.bool true)) [11]) [s0, s1, .ow false (.l io), .v (eL L), .v (.int L.c), s5, s6, s7, s8, s9, s10, .un, .un, .un, .un] =
        .ok (.nw (.l (G.map eT))) [s0, s1, .ow false (.l j), .v (eL L), .v (.int L.c), s5, s6, s7, s8, s9, s10, .un, .un, .un, .un] := by
      have hi : evI (sem T 15) (.rng (.lit (.int 0)) (.lit (.int 8))) [s0, s1, .ow false (.l io), .v (eL L), .v (.int L.c), s5, s6, s7, s8, s9, s10, .un, .un, .un, .un] = .ok ((rngI 0 8).map .int) [s0, s1, .ow false (.l io), .v (eL L), .v (.int L.c), s5, s6, s7, s8, s9, s10, .un, .un, .un, .un] := by
        have rk := rngOk_k (a := 0) (b := 8) (by omega) (by omega) (by omega) (by omega)
        simp [rk, rngD_eq]
      rw [evE, hi]
      simp only [bnd_ok]
      rw [if_pos (by simp [freeE_cons])]
      have e' := e
      simp only [List.map_nil] at e'
      rw [e']
      simp [backE]
    rw [s_set, e_ite]
    simp [hc, hlc, setS_eq, h5]
end Tx

namespace Tx
open PySem PySem.Spec Sn Mx
/-- the inner loop of the law -/
theorem inner_loop {L : Lay} {F : List (List Int)} {io : List D} {s0 s1 s6 s7 s8 s9 s10 : Sl} {b : Sx} (hL : WL L) (hF : ∀ P ∈ F, VS L.c P) (hio : Src io) (h6 : Frs (some s6) = true) (h7 : Frs (some s7) = true) (h8 : Frs (some s8) = true) (h9 : Frs (some s9) = true) (h10 : Frs (some s10) = true)
    (hb : ∀ (S : List Int) (io : List D) (s5 s7 s8 s9 s10 : Sl), VS L.c S → Src io → Frs (some s7) = true → Frs (some s8) = true → Frs (some s9) = true → Frs (some s10) = true → ∃ (io' : List D) (t7 t8 t9 t10 : Sl), Src io' ∧ Frs (some t7) = true ∧ Frs (some t8) = true ∧ Frs (some t9) = true ∧ Frs (some t10) = true ∧
      evS (sem T 15) b [s0, s1, .ow false (.l io), .v (eL L), .v (.int L.c), s5, .v (eT S), s7, s8, s9, s10, .un, .un, .un, .un] =
      .ok .nx [s0, s1, .ow false (.l io'), .v (eL L), .v (.int L.c), s5, .v (eT S), t7, t8, t9, t10, .un, .un, .un, .un]) :
    ∃ (io' : List D) (t5 t6 t7 t8 t9 t10 : Sl), Src io' ∧ (Frs (some t5) = true ∧ Frs (some t6) = true ∧ Frs (some t7) = true ∧ Frs (some t8) = true ∧ Frs (some t9) = true ∧ Frs (some t10) = true) ∧
      evS (sem T 15) (.for_ (.nm 6) (.seq (.var 5)) b) [s0, s1, .ow false (.l io), .v (eL L), .v (.int L.c), .ow false (.l (F.map eT)), s6, s7, s8, s9, s10, .un, .un, .un, .un] =
      .ok .nx [s0, s1, .ow false (.l io'), .v (eL L), .v (.int L.c), t5, t6, t7, t8, t9, t10, .un, .un, .un, .un] := by
  obtain ⟨ρ', e, q⟩ := forL_go (tg := .nm 6) (b := evS (sem T 15) b) eT (I_in s0 s1 (.v (.list (F.map eT))) L) (by
    rintro S rem ρ ⟨io, s6, s7, s8, s9, s10, hio, rfl, h6, h7, h8, h9, h10, hm⟩
    refine ⟨_, by simp [asg, setS_eq, h6]; rfl, ?_⟩
    obtain ⟨io', t7, t8, t9, t10, q1, q2, q3, q4, q5, q6⟩ := hb S io (.v (.list (F.map eT))) s7 s8 s9 s10 (hm S (List.mem_cons_self ..)) hio h7 h8 h9 h10
    exact ⟨_, q6, io', _, t7, t8, t9, t10, q1, rfl, rfl, q2, q3, q4, q5, fun P hP => hm P (List.mem_cons_of_mem _ hP)⟩)
    F [s0, s1, .ow false (.l io), .v (eL L), .v (.int L.c), .v (.list (F.map eT)), s6, s7, s8, s9, s10, .un, .un, .un, .un] ⟨io, s6, s7, s8, s9, s10, hio, rfl, h6, h7, h8, h9, h10, hF⟩
  obtain ⟨io', t6, t7, t8, t9, t10, q1, rfl, q6, q7, q8, q9, q10, _⟩ := q
  refine ⟨io', .v (.list (F.map eT)), t6, t7, t8, t9, t10, q1, ⟨rfl, q6, q7, q8, q9, q10⟩, ?_⟩
  rw [s_for]
  have hi : evI (sem T 15) (.seq (.var 5)) [s0, s1, .ow false (.l io), .v (eL L), .v (.int L.c), .ow false (.l (F.map eT)), s6, s7, s8, s9, s10, .un, .un, .un, .un] = .ok (F.map eT) [s0, s1, .ow false (.l io), .v (eL L), .v (.int L.c), .v (.list (F.map eT)), s6, s7, s8, s9, s10, .un, .un, .un, .un] := by simp
  rw [hi]
  exact e
theorem math_k03 (ns : List Int) (hns : ns.length ≤ 63) : ∃ io, sem T 16 61 [scr (ns.map .int)] = .ret (.v (.bool true)) io := by
  rw [sem_at (fd := a_law_k03) rfl]
  show ∃ io, outF a_law_k03 (evS (sem T 15) a_law_k03.body [.v (scr (ns.map .int)), .un, .un, .un, .un, .un, .un, .un, .un, .un, .un, .un, .un, .un, .un]) = _
  unfold a_law_k03
  dsimp only
  rw [s_seq]
  obtain ⟨m, m0, m1, em⟩ := law_step ns hns
  refine for_kE (fun x => ∃ io, outF _ x = .ret (.v (.bool true)) io) [.v (scr (ns.map .int)), .un, .un, .un, .un, .un, .un, .un, .un, .un, .un, .un, .un, .un, .un] (rngI 0 m) .int (I_law ns) em ⟨_, _, _, _, _, _, _, _, _, _, rfl, ⟨rfl, rfl, rfl, rfl, rfl⟩, ⟨rfl, rfl, rfl, rfl, rfl⟩, fun k hk => by have := mem_rngI.mp hk; omega⟩ ?_ ?_
  · rintro k rem ρ ⟨s1, s2, s3, s4, s5, s6, s7, s8, s9, s10, rfl, ⟨h1, h2, h3, h4, h5⟩, ⟨h6, h7, h8, h9, h10⟩, hk⟩
    obtain ⟨k0, k1⟩ := hk k (List.mem_cons_self ..)
    refine ⟨_, by simp [asg, setS_eq, h1]; rfl, ?_⟩
    obtain ⟨j, rfl⟩ : ∃ j : Nat, k = j := ⟨k.toNat, by omega⟩
    obtain ⟨io1, hio1, e1⟩ := source_ok 14 ns j (by omega)
    rw [seq_nx (ρ' := [.v (scr (ns.map .int)), .v (.int j), .ow false (.l io1), s3, s4, s5, s6, s7, s8, s9, s10, .un, .un, .un, .un]) (by simp [e1, setS_eq, h2])]
    obtain ⟨io2, L, hio2, hL, e2⟩ := pick_lay hio1
    rw [seq_nx (e2 _ _ _ _ _ _ _ _ _ _ h3)]
    have e : ixD (eL L) (.int 0) = some (.int L.c) := by simp [eL]
    rw [seq_nx (ρ' := [.v (scr (ns.map .int)), .v (.int j), .ow false (.l io2), .v (eL L), .v (.int L.c), s5, s6, s7, s8, s9, s10, .un, .un, .un, .un]) (by simp [e, setS_eq, h4])]
    obtain ⟨io3, F, hio3, hF, e3⟩ := pick_sets hio2 hL (.v (scr (ns.map .int))) (.v (.int j)) s5 s6 s7 s8 s9 s10 h5
    rw [seq_nx e3]
    obtain ⟨io4, t5, t6, t7, t8, t9, t10, hio4, ⟨q5, q6, q7, q8, q9, q10⟩, e4⟩ := inner_loop (s0 := .v (scr (ns.map .int))) (s1 := .v (.int j)) hL hF hio3 h6 h7 h8 h9 h10 (fun S io s5 s7 s8 s9 s10 a1 a2 a3 a4 a5 a6 => inner_ok 9 hL a1 a2 a3 a4 a5 a6 rfl)
    rw [seq_nx e4, s_skip]
    exact ⟨_, rfl, _, _, _, _, _, _, _, _, _, _, rfl, ⟨rfl, rfl, rfl, rfl, q5⟩, ⟨q6, q7, q8, q9, q10⟩, fun k hk' => hk k (List.mem_cons_of_mem _ hk')⟩
  · rintro ρ' ⟨s1, s2, s3, s4, s5, s6, s7, s8, s9, s10, rfl, _, _, _⟩
    refine ⟨[], ?_⟩
    rw [sqF_nx]
    simp [written]
end Tx

namespace Tx
open PySem PySem.Spec Sn Mx
theorem eqv_self {d : D} (h : SeqAt.shaped d = true) : PyData.eqv d d = true := by
  unfold SeqAt.shaped at h
  rw [Bool.and_eq_true] at h
  exact SeqAt.eqv_refl d h.1
theorem ne_self {d : D} (h : SeqAt.shaped d = true) : cmpD .ne d d = some false := by
  show (if (SeqAt.shaped d && SeqAt.shaped d) = true then some (!PyData.eqv d d) else none) = _
  rw [h, eqv_self h]; rfl
theorem eq_self' {d : D} (h : SeqAt.shaped d = true) : cmpD .eq d d = some true := by
  show (if (SeqAt.shaped d && SeqAt.shaped d) = true then some (PyData.eqv d d) else none) = _
  rw [h, eqv_self h]; rfl
theorem shp_eL (L : Lay) : SeqAt.shaped (eL L) = true := by
  have hl := lay_rows L.rows
  have e1 : PyData.canLay0 (eL L) = true := by unfold eL; simp [PyData.canLay0, PyData.canLayAll0, hl.1]
  have e2 : PyData.depth (eL L) ≤ 3 := by have := hl.2; unfold eL; simp [PyData.depth, PyData.depthAll]; omega
  unfold SeqAt.shaped
  rw [e1, Bool.true_and, decide_eq_true_eq]; omega
theorem law_rng (n : Nat) (ns : List Int) {a b : Int} (ha0 : 0 ≤ a) (ha : a < 1000) (hb : b < 1000) {ρ : En} (h0 : ρ[0]? = some (.v (scr (ns.map .int)))) : ∃ m : Int, 0 ≤ m ∧ m < 1000 ∧ evI (sem T n) (.rng (.lit (.int 0)) (.bi .max2 (.cons (.lit (.int a)) (.cons (.bi .min2 (.cons (.lit (.int b)) (.cons (.bi .len (.cons (.var 0) .nil)) .nil))) .nil)))) ρ = .ok ((rngI 0 m).map .int) ρ := by
  have len : biD .len [scr (ns.map .int)] = some (.v (.int ns.length)) := by
    show some (R.v (.int ((ns.map PyData.int).length : Nat))) = _
    rw [List.length_map]
  obtain ⟨x, hx, ex⟩ : ∃ x : Int, x < 1000 ∧ biD .min2 [.int b, .int ns.length] = some (.v (.int x)) := ⟨_, by split <;> omega, rfl⟩
  obtain ⟨m, hm0, hm, em⟩ : ∃ m : Int, 0 ≤ m ∧ m < 1000 ∧ biD .max2 [.int a, .int x] = some (.v (.int m)) := ⟨_, by split <;> omega, by split <;> omega, rfl⟩
  refine ⟨m, hm0, by omega, ?_⟩
  have rk := rngOk_k (a := 0) (b := m) (by omega) (by omega) (by omega) (by omega)
  simp [h0, len, ex, em, rk, rngD_eq]
theorem forL_run {Φ : Nat → List D → Out} {α : Type} {tg : Tg} {it : Sn.It} {b : Sx} {ρ ρ0 : En} (l : List α) (enc : α → D) (I : List α → En → Prop) (h1 : evI Φ it ρ = .ok (l.map enc) ρ0) (h0 : I l ρ0)
    (h : ∀ a r ρ, I (a :: r) ρ → ∃ ρ1, asg tg (enc a) ρ = .ok () ρ1 ∧ ∃ ρ2, evS Φ b ρ1 = .ok .nx ρ2 ∧ I r ρ2) : ∃ ρ', evS Φ (.for_ tg it b) ρ = .ok .nx ρ' ∧ I [] ρ' := by
  obtain ⟨ρ', e, q⟩ := forL_go (tg := tg) (b := evS Φ b) enc I h l ρ0 h0
  exact ⟨ρ', by rw [s_for, h1]; exact e, q⟩
theorem sum_rows (n : Nat) {ρ : En} {d : D} {e : Ex} {j : Nat} {rows : List Rw} (he : evI (sem T n) (.seq e) ρ = .ok (rows.map eR) ρ) (hj : Fre ρ[j]? = true) : evE (sem T n) (.bi .sum (.cons (.lc (.ix (.var j) (.lit (.int 2))) (.nm j) (.seq e) (.lit (.bool true)) [j]) .nil)) ρ = .ok (.v (.int (tot rows))) ρ := by
  have lj : j < ρ.length := by
    by_cases h : j < ρ.length
    · exact h
    · rw [List.getElem?_eq_none (by omega)] at hj; cases hj
  simp only [e_sum]
  rw [lc_all rows eR (fun r => .int r.2.2)]
  · simp [m_sum, tot]
  · exact he
  · rw [freeE_cons, hj]; rfl
  · intro r hr
    have g : (wipeE ρ [j])[j]? = some .un := by show (ρ.set j .un)[j]? = _; rw [List.getElem?_set_self lj]
    refine ⟨(wipeE ρ [j]).set j (.v (eR r)), ?_, ?_, ?_⟩
    · show setS j (.v (eR r)) _ = _
      rw [setS_k (by rw [g]; rfl)]
    · show (((ρ.set j .un).set j _).set j .un) = _
      rw [List.set_set, List.set_set]; rfl
    · have g2 : ((wipeE ρ [j]).set j (.v (eR r)))[j]? = some (.v (eR r)) := by rw [List.getElem?_set_self (by show j < (ρ.set j .un).length; rw [List.length_set]; exact lj)]
      have e2 : ixD (eR r) (.int 2) = some (.int r.2.2) := ix_t2 _ _ _ _
      simp [g2, e2]
def I_s2 (L : Lay) (a0 a1 a2 a5 a6 : Sl) (rem : List (List Int)) (ρ : En) : Prop := ∃ s7 s11, ρ = [a0, a1, a2, .v (eL L), .v (.int L.c), a5, a6, s7, .un, .un, .un, s11, .un, .un, .un] ∧ Frs (some s7) = true ∧ Frs (some s11) = true ∧ ∀ P ∈ rem, VS L.c P
def I_s2' (L : Lay) (a0 a1 a2 a5 a6 a8 a9 : Sl) (rem : List (List Int)) (ρ : En) : Prop := ∃ s7 s10 s11, ρ = [a0, a1, a2, .v (eL L), .v (.int L.c), a5, a6, s7, a8, a9, s10, s11, .un, .un, .un] ∧ Frs (some s7) = true ∧ Frs (some s10) = true ∧ Frs (some s11) = true ∧ ∀ P ∈ rem, VS L.c P
theorem sets_k02 (n : Nat) {L : Lay} (hL : WL L) {S : List Int} (hS : VS L.c S) {a0 a1 a2 a5 a6 a8 a9 a10 s11 : Sl} (h11 : Frs (some s11) = true) :
    evS (sem T (n+5)) (.seq (.ite (.cmp (.call 8 (.cons (.var 3) (.cons (.var 7) .nil))) (.one .ne (.call 52 (.cons (.var 3) (.cons (.var 7) .nil))))) (.seq (.ret (.lit (.bool false))) .skip) .skip)
    (.seq (.set 11 (.call 10 (.cons (.var 3) (.cons (.var 7) .nil))))
    (.seq (.ite (.cmp (.var 11) (.one .ne (.call 54 (.cons (.var 3) (.cons (.var 7) .nil))))) (.seq (.ret (.lit (.bool false))) .skip) .skip)
    (.seq (.ite (.cmp (.bin .add (.bi .sum (.cons (.lc (.ix (.var 14) (.lit (.int 2))) (.nm 14) (.seq (.ix (.var 11) (.lit (.int 1)))) (.lit (.bool true)) [14]) .nil)) (.call 8 (.cons (.var 3) (.cons (.var 7) .nil)))) (.one .ne (.call 6 (.cons (.var 3) .nil)))) (.seq (.ret (.lit (.bool false))) .skip) .skip)
    .skip)))) [a0, a1, a2, .v (eL L), .v (.int L.c), a5, a6, .v (eT S), a8, a9, a10, s11, .un, .un, .un] =
      .ok .nx [a0, a1, a2, .v (eL L), .v (.int L.c), a5, a6, .v (eT S), a8, a9, a10, .v (eL (red L S)), .un, .un, .un] := by
  have f1 := freed_w n hL hS
  have f2 := lawfreed_ok (n+4) L S (lay_small (lay_ok hL))
  have f3 := after_w n hL hS
  have f4 := lawafter_ok (n+3) hL hS
  have f5 := total_ok n hL
  have e1 : ixD (eL (red L S)) (.int 1) = some (.tuple ((red L S).rows.map eR)) := by simp [eL]
  have ne := ne_self (shp_eL (red L S))
  have tt : tot (red L S).rows + frd S L.rows = tot L.rows := by
    have := tot_red S (rows := L.rows) fun r hr => ⟨(hL.good r hr).1, (hL.good r hr).2.1⟩
    show tot (redRows S L.rows) + _ = _
    omega
  refine go_seq (ρ' := [a0, a1, a2, .v (eL L), .v (.int L.c), a5, a6, .v (eT S), a8, a9, a10, s11, .un, .un, .un]) (by simp [f1, f2]) ?_
  refine go_seq (ρ' := [a0, a1, a2, .v (eL L), .v (.int L.c), a5, a6, .v (eT S), a8, a9, a10, .v (eL (red L S)), .un, .un, .un]) (by simp [f3, setS_eq, h11]) ?_
  refine go_seq (ρ' := [a0, a1, a2, .v (eL L), .v (.int L.c), a5, a6, .v (eT S), a8, a9, a10, .v (eL (red L S)), .un, .un, .un]) (by simp [f4, ne]) ?_
  refine go_seq (ρ' := [a0, a1, a2, .v (eL L), .v (.int L.c), a5, a6, .v (eT S), a8, a9, a10, .v (eL (red L S)), .un, .un, .un]) ?_ rfl
  have sr := sum_rows (n+5) (d := .none) (j := 14) (e := .ix (.var 11) (.lit (.int 1))) (rows := (red L S).rows) (ρ := [a0, a1, a2, .v (eL L), .v (.int L.c), a5, a6, .v (eT S), a8, a9, a10, .v (eL (red L S)), .un, .un, .un]) (by simp [e1]) rfl
  simp only [s_ite, e_cmp, e_bin, sr]
  simp [f1, f5, tt]
def odds (c : Int) : List D := [.none, .list [], .tuple [.int c], .tuple [.int (-1)], .tuple [.int 0, .int 0], .tuple [.bool true], .tuple [.str "0"], .tuple [.int 1, .int 0], .int 0]
theorem odds_ok {c : Int} (h0 : 0 ≤ c) : ∀ d ∈ odds c, nDict d = true ∧ (∀ ds, d = .tuple ds → ∀ x ∈ ds, nDict x = true) ∧ setOk c d = false := by
  intro d hd
  simp only [odds, List.mem_cons, List.not_mem_nil, or_false] at hd
  rcases hd with rfl | rfl | rfl | rfl | rfl | rfl | rfl | rfl | rfl <;> refine ⟨rfl, ?_, ?_⟩ <;> first
    | (intro ds h; cases h; simp [nDict]; done)
    | (intro ds h; cases h; done)
    | (simp [setOk, isI, inB, adj, dLt]; done)
    | (simp [setOk, isI, inB, adj, dLt]; omega)
def I_o2 (L : Lay) (a0 a1 a2 a5 a6 a7 a8 a9 a11 : Sl) (rem : List D) (ρ : En) : Prop := ∃ s10, ρ = [a0, a1, a2, .v (eL L), .v (.int L.c), a5, a6, a7, a8, a9, s10, a11, .un, .un, .un] ∧ Frs (some s10) = true ∧ ∀ d ∈ rem, d ∈ odds L.c
def I_law2 (ns : List Int) (rem : List Int) (ρ : En) : Prop := ∃ s1 s2 s3 s4 s5 s6 s7 s8 s9 s10 s11, ρ = [.v (scr (ns.map .int)), s1, s2, s3, s4, s5, s6, s7, s8, s9, s10, s11, .un, .un, .un] ∧
  (Frs (some s1) = true ∧ Frs (some s2) = true ∧ Frs (some s3) = true ∧ Frs (some s4) = true ∧ Frs (some s5) = true ∧ Frs (some s6) = true) ∧
  (Frs (some s7) = true ∧ Frs (some s8) = true ∧ Frs (some s9) = true ∧ Frs (some s10) = true ∧ Frs (some s11) = true) ∧ ∀ k ∈ rem, 0 ≤ k ∧ k < 1000
open Mx in
theorem red_w : red ⟨3, [(0, 1, 10), (2, 2, 5), (3, 3, 2)]⟩ [1] = ⟨2, [(0,0,10),(1,1,5),(2,2,2)]⟩ := by
  have e1 : keysA (tblOf (mapK (ph [1]) (itm [(0, 1, 10), (2, 2, 5), (3, 3, 2)]))) = [(0,0),(1,1),(2,2)] := by decide +kernel
  have e2 : ([(0,0),(1,1),(2,2)] : List K2).mergeSort kLe = [(0,0),(1,1),(2,2)] := List.mergeSort_of_pairwise (by decide)
  unfold red redRows grp rowsOf
  dsimp only
  rw [e1, e2]
  have e3 : ((leftOf [1] 3).length : Int) - 1 = 2 := by decide +kernel
  rw [e3]
  congr 1
theorem math_k02 (ns : List Int) (hns : ns.length ≤ 63) : ∃ io, sem T 16 57 [scr (ns.map .int)] = .ret (.v (.bool true)) io := by
  rw [sem_at (fd := a_law_k02) rfl]
  show ∃ io, outF a_law_k02 (evS (sem T 15) a_law_k02.body [.v (scr (ns.map .int)), .un, .un, .un, .un, .un, .un, .un, .un, .un, .un, .un, .un, .un, .un]) = _
  unfold a_law_k02
  dsimp only
  rw [s_seq]
  obtain ⟨m, m0, m1, em⟩ := law_rng 15 ns (a := 6) (b := 40) (ρ := [.v (scr (ns.map .int)), .un, .un, .un, .un, .un, .un, .un, .un, .un, .un, .un, .un, .un, .un]) (by omega) (by omega) (by omega) rfl
  refine for_kE (fun x => ∃ io, outF _ x = .ret (.v (.bool true)) io) _ (rngI 0 m) .int (I_law2 ns) em ⟨_, _, _, _, _, _, _, _, _, _, _, rfl, ⟨rfl, rfl, rfl, rfl, rfl, rfl⟩, ⟨rfl, rfl, rfl, rfl, rfl⟩, fun k hk => by have := mem_rngI.mp hk; omega⟩ ?_ ?_
  · rintro k rem ρ ⟨s1, s2, s3, s4, s5, s6, s7, s8, s9, s10, s11, rfl, ⟨h1, h2, h3, h4, h5, h6⟩, ⟨h7, h8, h9, h10, h11⟩, hk⟩
    obtain ⟨k0, k1⟩ := hk k (List.mem_cons_self ..)
    refine ⟨_, by simp [asg, setS_eq, h1] <;> rfl, ?_⟩
    obtain ⟨j, rfl⟩ : ∃ j : Nat, k = j := ⟨k.toNat, by omega⟩
    obtain ⟨io1, hio1, e1⟩ := source_ok 14 ns j (by omega)
    obtain ⟨io2, L, hio2, hL, _, e2⟩ := lay_drawn 13 hio1 (most := 10) (by omega) (by omega)
    have c0 := hL.c0
    have c1 := hL.c1
    have e3 : ixD (eL L) (.int 0) = some (.int L.c) := by simp [eL]
    have e4 : ixD (eL L) (.int 1) = some (.tuple (L.rows.map eR)) := by simp [eL]
    have e5 := total_ok 10 hL
    obtain ⟨low, io3, l0, l1, hio3, e6⟩ := pick_ok 14 hio2 (size := L.c + 1) (by omega) (by omega)
    obtain ⟨w, io4, w0, w1, hio4, e7⟩ := pick_ok 14 hio3 (size := L.c + 1 - low) (by omega) (by omega)
    have r1 := rngOk_k (a := 0) (b := L.c) (by omega) (by omega) (by omega) (by omega)
    have r2 := rngOk_k (a := low) (b := low + w) (by omega) (by omega) (by omega) (by omega)
    have sets3 : ∀ P ∈ [[], rngI 0 L.c, rngI low (low + w)], VS L.c P := fun P hP => by
      simp only [List.mem_cons, List.not_mem_nil, or_false] at hP
      rcases hP with rfl | rfl | rfl
      · exact ⟨(fun v hv => by cases hv), List.Pairwise.nil⟩
      · exact ⟨fun v hv => by have := mem_rngI.mp hv; omega, rngI_asc _ _⟩
      · exact ⟨fun v hv => by have := mem_rngI.mp hv; omega, rngI_asc _ _⟩
    have l3 : [PyData.tuple [], .tuple ((rngI 0 L.c).map .int), .tuple ((rngI low (low + w)).map .int)] = [[], rngI 0 L.c, rngI low (low + w)].map eT := rfl
    obtain ⟨io5, F, hio5, hF, hFl, e8⟩ := lc_sets 13 (ρ := [.v (scr (ns.map .int)), .v (.int j), .ow false (.l io4), .v (eL L), .v (.int L.c), .v (.int low), .ow false (.l ([[], rngI 0 L.c, rngI low (low + w)].map eT)), s7, s8, s9, s10, s11, .un, .un, .un]) (i := 2) (j := 13) (cnt := 4) (m := 4) hio4 c0 c1 (by omega) (by omega) (by decide) (by decide) (by decide) rfl rfl rfl
    have hF2 : ∀ P ∈ [[], rngI 0 L.c, rngI low (low + w)] ++ F, VS L.c P := fun P hP => (List.mem_append.mp hP).elim (sets3 P) (hF P)
    have st1 := sum_rows 15 (d := .none) (j := 14) (e := .ix (.var 3) (.lit (.int 1))) (rows := L.rows) (ρ := [.v (scr (ns.map .int)), .v (.int j), .ow false (.l io2), .v (eL L), .v (.int L.c), s5, s6, s7, s8, s9, s10, s11, .un, .un, .un]) (by simp [e4]) rfl
    have add3 : binD .add (.list ([[], rngI 0 L.c, rngI low (low + w)].map eT)) (.list (F.map eT)) = some (.nw (.l (([[], rngI 0 L.c, rngI low (low + w)] ++ F).map eT))) := by
      show (if (List.map eT [[], rngI 0 L.c, rngI low (low + w)]).length + (F.map eT).length ≤ sizeLine then some (R.nw (.l (List.map eT [[], rngI 0 L.c, rngI low (low + w)] ++ F.map eT))) else none) = _
      rw [if_pos (by rw [List.length_map, List.length_map, hFl]; show 3 + 4 ≤ sizeLine; decide), List.map_append]
    obtain ⟨ρ6, e9, t7, t11, rfl, q7, q11, _⟩ := forL_run (Φ := sem T 15) (tg := .nm 7) (it := .seq (.bin .add (.var 6) (.lc (.callIO 55 2 (.cons (.var 4) .nil)) (.nm 13) (.rng (.lit (.int 0)) (.lit (.int 4))) (.lit (.bool true)) [13])))
      (b := (.seq (.ite (.cmp (.call 8 (.cons (.var 3) (.cons (.var 7) .nil))) (.one .ne (.call 52 (.cons (.var 3) (.cons (.var 7) .nil))))) (.seq (.ret (.lit (.bool false))) .skip) .skip)
        (.seq (.set 11 (.call 10 (.cons (.var 3) (.cons (.var 7) .nil))))
        (.seq (.ite (.cmp (.var 11) (.one .ne (.call 54 (.cons (.var 3) (.cons (.var 7) .nil))))) (.seq (.ret (.lit (.bool false))) .skip) .skip)
        (.seq (.ite (.cmp (.bin .add (.bi .sum (.cons (.lc (.ix (.var 14) (.lit (.int 2))) (.nm 14) (.seq (.ix (.var 11) (.lit (.int 1)))) (.lit (.bool true)) [14]) .nil)) (.call 8 (.cons (.var 3) (.cons (.var 7) .nil)))) (.one .ne (.call 6 (.cons (.var 3) .nil)))) (.seq (.ret (.lit (.bool false))) .skip) .skip)
        .skip)))))
      (ρ := [.v (scr (ns.map .int)), .v (.int j), .ow false (.l io4), .v (eL L), .v (.int L.c), .v (.int low), .ow false (.l ([[], rngI 0 L.c, rngI low (low + w)].map eT)), s7, s8, s9, s10, s11, .un, .un, .un])
      ([[], rngI 0 L.c, rngI low (low + w)] ++ F) eT (fun rem ρ => ∃ s7 s11, ρ = [.v (scr (ns.map .int)), .v (.int j), .ow false (.l io5), .v (eL L), .v (.int L.c), .v (.int low), .ow false (.l ([[], rngI 0 L.c, rngI low (low + w)].map eT)), s7, s8, s9, s10, s11, .un, .un, .un] ∧ Frs (some s7) = true ∧ Frs (some s11) = true ∧ ∀ P ∈ rem, VS L.c P)
      (by
        simp only [i_seq, e_bin, e_var, List.getElem?_cons_succ, List.getElem?_cons_zero, gV_ow, bnd_ok, opr_sl, e8, List.set_cons_succ, List.set_cons_zero, opr_nw, vw_sl, vS_ow, vw_v, opt_some, add3, frz_nw, seq_l])
      ⟨s7, s11, rfl, h7, h11, hF2⟩
      (by
        rintro S rem ρ ⟨s7, s11, rfl, h7, h11, hm⟩
        exact ⟨_, by simp [asg, setS_eq, h7] <;> rfl, _, sets_k02 10 hL (hm S (List.mem_cons_self ..)) h11, _, _, rfl, rfl, rfl, fun P hP => hm P (List.mem_cons_of_mem _ hP)⟩)
    have u1 := unique_ok 10 hL
    have sm := lay_small (lay_ok hL)
    have exp : ∀ a9, evE (sem T 15) (.lc (.call 52 (.cons (.var 3) (.cons (.tup (.cons (.var 12) .nil)) .nil))) (.nm 12) (.rng (.lit (.int 0)) (.var 4)) (.lit (.bool true)) [12])
        [.v (scr (ns.map .int)), .v (.int j), .ow false (.l io5), .v (eL L), .v (.int L.c), .v (.int low), .ow false (.l ([[], rngI 0 L.c, rngI low (low + w)].map eT)), t7, s8, a9, s10, t11, .un, .un, .un] =
        .ok (.nw (.l ((rngI 0 L.c).map fun p => .int (frd [p] L.rows)))) [.v (scr (ns.map .int)), .v (.int j), .ow false (.l io5), .v (eL L), .v (.int L.c), .v (.int low), .ow false (.l ([[], rngI 0 L.c, rngI low (low + w)].map eT)), t7, s8, a9, s10, t11, .un, .un, .un] := fun a9 => by
      rw [lc_all (rngI 0 L.c) .int (fun p => .int (frd [p] L.rows))]
      · simp [r1, rngD_eq]
      · simp [freeE_cons]
      · intro a ha
        have f : sem T 15 52 [eL L, .tuple [.int a]] = _ := lawfreed_ok 14 L [a] sm
        exact ⟨_, by simp [asg, wipeE, setS_eq]; rfl, by simp [wipeE], by simp [f]⟩
    have ul : ((rngI 0 L.c).map fun p => PyData.int (frd [p] L.rows)) = ((rngI 0 L.c).map fun p => frd [p] L.rows).map .int := by rw [List.map_map]; rfl
    rw [ul] at u1 exp
    have ne := ne_ints ((rngI 0 L.c).map fun p => frd [p] L.rows) ((rngI 0 L.c).map fun p => frd [p] L.rows)
    simp only [decide_true, Bool.not_true] at ne
    have ul2 : ((rngI 0 L.c).map fun p => frd [p] L.rows).length < sizeLine := by
      have : sizeLine = 16777216 := by decide
      simp [rngI]; omega
    generalize ((rngI 0 L.c).map fun p => frd [p] L.rows) = U at u1 exp ne ul2
    obtain ⟨ρ7, e10, t10, rfl, q10, _⟩ := forL_run (Φ := sem T 15) (tg := .nm 10) (it := .seq (.lst (.cons (.lit .none) (.cons (.lst .nil) (.cons (.tup (.cons (.var 4) .nil)) (.cons (.tup (.cons (.neg (.lit (.int 1))) .nil)) (.cons (.tup (.cons (.lit (.int 0)) (.cons (.lit (.int 0)) .nil))) (.cons (.tup (.cons (.lit (.bool true)) .nil)) (.cons (.tup (.cons (.lit (.str "0")) .nil)) (.cons (.tup (.cons (.lit (.int 1)) (.cons (.lit (.int 0)) .nil))) (.cons (.lit (.int 0)) .nil)))))))))))
      (b := (.seq (.ite (.cmp (.call 56 (.cons (.var 3) (.cons (.var 10) .nil))) (.one .ne (.lit (.str "set")))) (.seq (.ret (.lit (.bool false))) .skip) .skip) .skip))
      (ρ := [.v (scr (ns.map .int)), .v (.int j), .ow false (.l io5), .v (eL L), .v (.int L.c), .v (.int low), .ow false (.l ([[], rngI 0 L.c, rngI low (low + w)].map eT)), t7, .ow false (.l (U.map .int)), .ow false (.l (U.map .int ++ [.none])), s10, t11, .un, .un, .un])
      (odds L.c) id (fun rem ρ => ∃ s10, ρ = [.v (scr (ns.map .int)), .v (.int j), .ow false (.l io5), .v (eL L), .v (.int L.c), .v (.int low), .ow false (.l ([[], rngI 0 L.c, rngI low (low + w)].map eT)), t7, .ow false (.l (U.map .int)), .ow false (.l (U.map .int ++ [.none])), s10, t11, .un, .un, .un] ∧ Frs (some s10) = true ∧ ∀ d ∈ rem, d ∈ odds L.c)
      (by simp [odds, sizeLine]) ⟨s10, rfl, h10, fun _ h => h⟩
      (by
        rintro d rem ρ ⟨s10, rfl, h10, hm⟩
        obtain ⟨o1, o2, o3⟩ := odds_ok c0 d (hm d (List.mem_cons_self ..))
        have oc := outcome_k02 9 hL o1 o2 o3
        have es : cmpD .ne (.str "set") (.str "set") = some false := ne_self (by decide +kernel)
        exact ⟨_, by simp [asg, setS_eq, h10] <;> rfl, _, go_seq (by simp [oc, es]; rfl) rfl, _, rfl, rfl, fun x hx => hm x (List.mem_cons_of_mem _ hx)⟩)
    refine ⟨_, go_seq (by simp [e1, setS_eq, h2]; rfl) (go_seq (by simp [e2, setS_eq, h3]; rfl) (go_seq (by simp [e3, setS_eq, h4]; rfl) (go_seq (ρ' := [.v (scr (ns.map .int)), .v (.int j), .ow false (.l io2), .v (eL L), .v (.int L.c), s5, s6, s7, s8, s9, s10, s11, .un, .un, .un]) (by simp [e5, -e_sum, st1]) (go_seq (by simp [e6, setS_eq, h5]; rfl)
      (go_seq (ρ' := [.v (scr (ns.map .int)), .v (.int j), .ow false (.l io4), .v (eL L), .v (.int L.c), .v (.int low), .ow false (.l ([[], rngI 0 L.c, rngI low (low + w)].map eT)), s7, s8, s9, s10, s11, .un, .un, .un]) (by simp [r1, r2, e7, setS_eq, h6, rngD_eq, sizeLine, eT]) (go_seq e9 (go_seq (by rw [s_set, exp]; simp [setS_eq, h8]; rfl) (go_seq (by simp [u1, setS_eq, h9] <;> rfl) (go_seq (by simp [ne] <;> rfl) (go_seq (by simp [ul2] <;> rfl) (go_seq (by simp [u1, ne] <;> rfl) (go_seq e10 rfl)))))))))))), _, _, _, _, _, _, _, _, _, _, _, rfl, ⟨rfl, rfl, rfl, rfl, rfl, rfl⟩, ⟨q7, rfl, rfl, q10, q11⟩, fun k hk' => hk k (List.mem_cons_of_mem _ hk')⟩
  · rintro ρ' ⟨s1, s2, s3, s4, s5, s6, s7, s8, s9, s10, s11, rfl, _, _, _⟩
    refine ⟨[], ?_⟩
    rw [sqF_nx]
    have w1 : sem T 15 10 [.tuple [.int 3, .tuple [.tuple [.int 0, .int 1, .int 10], .tuple [.int 2, .int 2, .int 5], .tuple [.int 3, .int 3, .int 2]]], .tuple [.int 1]] = .ret (.v (.tuple [.int 2, .tuple [.tuple [.int 0, .int 0, .int 10], .tuple [.int 1, .int 1, .int 5], .tuple [.int 2, .int 2, .int 2]]])) [] := by
      have hW : WL ⟨3, [(0, 1, 10), (2, 2, 5), (3, 3, 2)]⟩ := ⟨by decide, by decide, (by intro r hr; simp at hr; rcases hr with rfl | rfl | rfl <;> (refine ⟨?_, ?_, ?_⟩ <;> decide)), (by intro r hr; simp at hr; rcases hr with rfl | rfl | rfl <;> decide), (by simp [Srt]; decide), by decide, by decide⟩
      have := after_w 10 hW (S := [1]) (VS.one (by decide) (by decide))
      rw [red_w] at this; exact this
    have es : cmpD .eq (.tuple [.int 2, .tuple [.tuple [.int 0, .int 0, .int 10], .tuple [.int 1, .int 1, .int 5], .tuple [.int 2, .int 2, .int 2]]]) (.tuple [.int 2, .tuple [.tuple [.int 0, .int 0, .int 10], .tuple [.int 1, .int 1, .int 5], .tuple [.int 2, .int 2, .int 2]]]) = some true := eq_self' rfl
    simp [w1, es, sizeLine]
end Tx

namespace Tx
open PySem PySem.Spec Sn Mx
def subStep (f : List (List Int)) (a : Int) : List (List Int) := f ++ f.map fun P => P ++ [a]
def subsU (items : List Int) : List (List Int) := items.foldl subStep [[]]
def leP (a b : List Int) : Bool := PySem.W.dataLe false id (eP a) (eP b)
def subsF (items : List Int) : List (List Int) := (subsU items).mergeSort leP
theorem mem_fold : ∀ {items : List Int} {f : List (List Int)} {P : List Int}, P ∈ items.foldl subStep f ↔ ∃ Q ∈ f, ∃ R : List Int, R.Sublist items ∧ P = Q ++ R
  | [], f, P => by
    constructor
    · exact fun h => ⟨P, h, [], List.Sublist.refl _, by simp⟩
    · rintro ⟨Q, hQ, R, hR, rfl⟩
      rw [List.sublist_nil.mp hR, List.append_nil]; exact hQ
  | a :: items, f, P => by
    rw [List.foldl_cons, mem_fold]
    constructor
    · rintro ⟨Q, hQ, R, hR, rfl⟩
      rcases List.mem_append.mp hQ with hQ | hQ
      · exact ⟨Q, hQ, R, hR.cons a, rfl⟩
      · obtain ⟨Q', hQ', rfl⟩ := List.mem_map.mp hQ
        exact ⟨Q', hQ', a :: R, hR.cons_cons a, by simp⟩
    · rintro ⟨Q, hQ, R, hR, rfl⟩
      cases hR with
      | cons _ h => exact ⟨Q, List.mem_append.mpr (.inl hQ), R, h, rfl⟩
      | cons_cons _ h => exact ⟨Q ++ [a], List.mem_append.mpr (.inr (List.mem_map.mpr ⟨Q, hQ, rfl⟩)), _, h, by simp⟩
theorem mem_subsF {items P : List Int} : P ∈ subsF items ↔ P.Sublist items := by
  unfold subsF subsU
  rw [(List.mergeSort_perm _ _).mem_iff, mem_fold]
  constructor
  · rintro ⟨Q, hQ, R, hR, rfl⟩
    simp at hQ; subst hQ; exact hR
  · exact fun h => ⟨[], by simp, P, h, rfl⟩
theorem fold_len : ∀ (items : List Int) (f : List (List Int)), (items.foldl subStep f).length = f.length * 2 ^ items.length
  | [], f => by simp
  | a :: items, f => by
    rw [List.foldl_cons, fold_len, List.length_cons, Nat.pow_succ, Nat.mul_comm (2 ^ items.length) 2, ← Nat.mul_assoc]
    congr 1
    unfold subStep
    rw [List.length_append, List.length_map]; omega
theorem subsF_len (items : List Int) (h : items.length ≤ 10) : (subsF items).length ≤ 1024 := by
  unfold subsF subsU
  rw [List.length_mergeSort, fold_len]
  have : 2 ^ items.length ≤ 2 ^ 10 := Nat.pow_le_pow_right (by omega) h
  simp; omega
theorem sort_eP' (l : List (List Int)) : biD .sorted [.list (l.map eP)] = some (.nw (.l ((l.mergeSort leP).map eP))) := by
  have h1 : alikeB (l.map eP) = true := by
    unfold alikeB
    simp only [List.all_eq_true, List.mem_map]
    rintro _ ⟨a, _, rfl⟩ _ ⟨b, _, rfl⟩
    exact alike_eP a b
  have h2 : sortB (l.map eP) = true := by
    unfold sortB
    rw [Bool.or_eq_true]
    refine .inl ?_
    simp only [List.all_eq_true, List.mem_map]
    rintro _ ⟨a, _, rfl⟩
    rfl
  have h3 : PyData.depth (.list (l.map eP)) ≤ 60 := by
    have := depth_eP l
    rw [PyData.depth]; omega
  show (if (alikeB (l.map eP) && (sortB (l.map eP) && decide (PyData.depth (.list (l.map eP)) ≤ 60))) = true then some (R.nw (.l (sortD (l.map eP)))) else none) = _
  rw [h1, h2, decide_eq_true h3, show (true && (true && true)) = true from rfl, if_pos rfl]
  unfold sortD
  rw [List.map_mergeSort (r := leP) (s := PySem.W.dataLe false id) (f := eP) fun a _ b _ => rfl]
def I_subF (items rem : List Int) (ρ : En) : Prop := ∃ (found : List (List Int)) (s2 : Sl), ρ = [.v (.list (items.map .int)), .ow false (.l (found.map eT)), s2, .un, .un, .un] ∧ Frs (some s2) = true ∧ rem.foldl subStep found = subsU items ∧ (∀ P ∈ found, P.length + rem.length ≤ 100) ∧ found.length * 2 ^ rem.length ≤ 1024
theorem subs_ok (n : Nat) (items : List Int) (hk : items.length ≤ 10) : sem T (n+1) 58 [.list (items.map .int)] = .ret (.nw (.l ((subsF items).map eT))) [] := by
  rw [sem_at (fd := a__law_subsets) rfl]
  show outF a__law_subsets (evS (sem T n) a__law_subsets.body [.v (.list (items.map .int)), .un, .un, .un, .un, .un]) = _
  unfold a__law_subsets
  dsimp only
  have et : PyData.tuple [] = eT [] := rfl
  rw [seq_nx (ρ' := [.v (.list (items.map .int)), .ow false (.l [eT []]), .un, .un, .un, .un]) (by simp [setS_eq, et]), s_seq]
  refine for_k (fun x => outF _ x = .ret (.nw (.l ((subsF items).map eT))) []) items .int (I_subF items) (by simp) ⟨[[]], .un, rfl, rfl, rfl, (fun P hP => by simp at hP; subst hP; simp; omega), by
      have : 2 ^ items.length ≤ 2 ^ 10 := Nat.pow_le_pow_right (by omega) (by omega)
      simp; omega⟩ ?_ ?_
  · rintro a rem ρ ⟨found, s2, rfl, h2, hfo, hf, hl⟩
    refine ⟨[.v (.list (items.map .int)), .ow false (.l (found.map eT)), .v (.int a), .un, .un, .un], by simp [asg, setS_eq, h2], ?_⟩
    have hp : found.length * 2 ^ (rem.length + 1) = (found.length + found.length) * 2 ^ rem.length := by rw [Nat.pow_succ, Nat.mul_comm (2 ^ rem.length) 2, ← Nat.mul_assoc]; congr 1; omega
    simp only [List.length_cons] at hl
    rw [hp] at hl
    have hb : found.length + found.length ≤ 1024 := Nat.le_trans (Nat.le_mul_of_pos_right _ (Nat.pow_pos (by omega))) hl
    have hlc : evE (sem T n) (.lc (.bin .add (.var 4) (.tup (.cons (.var 2) .nil))) (.nm 4) (.seq (.var 1)) (.lit (.bool true)) [4]) [.v (.list (items.map .int)), .ow false (.l (found.map eT)), .v (.int a), .un, .un, .un] =
        .ok (.nw (.l ((found.map fun P => P ++ [a]).map eT))) [.v (.list (items.map .int)), .v (.list (found.map eT)), .v (.int a), .un, .un, .un] := by
      rw [lc_allE [.v (.list (items.map .int)), .v (.list (found.map eT)), .v (.int a), .un, .un, .un] found eT (fun P => eT (P ++ [a]))]
      · rw [List.map_map]; rfl
      · simp
      · simp [freeE_cons]
      · intro P hP
        refine ⟨_, by simp [asg, wipeE, setS_eq]; rfl, by simp [wipeE], ?_⟩
        have hPl := hf P hP
        have e9 : binD .add (eT P) (.tuple [.int a]) = some (.v (eT (P ++ [a]))) := by
          unfold eT
          rw [add_tt _ _ (by rw [List.length_map]; simp only [List.length_cons, List.length_nil] at *; unfold sizeLine; omega)]
          simp
        simp [e9]
    have e8 : binD .add (.list (found.map eT)) (.list ((found.map fun P => P ++ [a]).map eT)) = some (.nw (.l ((subStep found a).map eT))) := by
      show (if (found.map eT).length + ((found.map fun P => P ++ [a]).map eT).length ≤ sizeLine then some (R.nw (.l (found.map eT ++ (found.map fun P => P ++ [a]).map eT))) else none) = _
      unfold subStep
      rw [if_pos (by rw [List.length_map, List.length_map, List.length_map]; unfold sizeLine; omega), List.map_append]
    refine ⟨[.v (.list (items.map .int)), .ow false (.l ((subStep found a).map eT)), .v (.int a), .un, .un, .un], ?_, subStep found a, .v (.int a), rfl, rfl, hfo, fun P hP => ?_, ?_⟩
    · simp only [s_seq, s_set, e_bin, e_var, List.getElem?_cons_succ, List.getElem?_cons_zero, gV_ow, bnd_ok, opr_sl, hlc, opr_nw, vw_sl, vS_v, vw_v, opt_some, e8, setR_nw, setS_eq]
      simp
    · rcases List.mem_append.mp hP with hP | hP
      · have := hf P hP
        simp only [List.length_cons] at this; omega
      · obtain ⟨Q, hQ, rfl⟩ := List.mem_map.mp hP
        have := hf Q hQ
        simp only [List.length_cons, List.length_append, List.length_nil] at this ⊢; omega
    · unfold subStep; rw [List.length_append, List.length_map]; exact hl
  · rintro ρ' ⟨found, s2, rfl, h2, hfo, hf, hl⟩
    have hF : found = subsU items := hfo
    have eF : biD .sorted [.list (found.map eP)] = some (.nw (.l ((subsF items).map eP))) := by rw [hF]; exact sort_eP' _
    rw [sqF_nx, seq_nx (ρ' := [.v (.list (items.map .int)), .v (.list (found.map eT)), s2, .ow false (.l ((subsF items).map eP)), .un, .un]) (by
      rw [s_set, e_sorted, lc_allE [.v (.list (items.map .int)), .v (.list (found.map eT)), s2, .un, .un, .un] found eT eP]
      · simp [eF, setS_eq]
      · simp
      · simp [freeE_cons]
      · intro P hP
        refine ⟨_, by simp [asg, wipeE, setS_eq]; rfl, by simp [wipeE], ?_⟩
        have : biD .len [eT P] = some (.v (.int P.length)) := by unfold eT; simp
        simp [this, eP])]
    rw [s_seq, s_ret, lc_allE [.v (.list (items.map .int)), .v (.list (found.map eT)), s2, .v (.list ((subsF items).map eP)), .un, .un] (subsF items) eP eT]
    · simp
    · simp
    · simp [freeE_cons]
    · intro P hP
      exact ⟨_, by simp [asg, wipeE, setS_eq, eP]; rfl, by simp [wipeE], by simp⟩
theorem all_sets_ok (n : Nat) (items : List Int) (hk : items.length ≤ 10) : sem T (n+1) 13 [.list (items.map .int)] = .ret (.nw (.l ((subsF items).map eT))) [] := by
  rw [← subs_ok n items hk, sem_at (fd := a__law_subsets) rfl, sem_at (fd := a_all_sets) rfl]
  rfl
/-- what may go -/
def fre (c : Int) (S : List Int) : List Int := (rngI 0 c).filter fun p => !decide (p ∈ S)
theorem rng_len {c : Int} (h : 0 ≤ c) : (rngI 0 c).length = c.toNat := by unfold rngI; rw [List.length_map, List.length_range]; congr 1; omega
theorem fre_len {c : Int} (S : List Int) (h0 : 0 ≤ c) (h1 : c ≤ 10) : (fre c S).length ≤ 10 := by
  have := List.length_filter_le (fun p => !decide (p ∈ S)) (rngI 0 c)
  rw [rng_len h0] at this
  unfold fre; omega
theorem fre_vs {c : Int} {S P : List Int} (h : P ∈ subsF (fre c S)) : VS c P := sub_vs ((mem_subsF.mp h).trans List.filter_sublist)
theorem free_ok (n : Nat) {c : Int} (S : List Int) (h0 : 0 ≤ c) (h1 : c ≤ 10) : sem T (n+2) 14 [.int c, eT S] = .ret (.nw (.l ((subsF (fre c S)).map eT))) [] := by
  rw [sem_at (fd := a_free_sets) rfl]
  show outF a_free_sets (evS (sem T (n+1)) a_free_sets.body [.v (.int c), .v (eT S), .un]) = _
  unfold a_free_sets
  dsimp only
  have st : evE (sem T (n+1)) (.lc (.var 2) (.nm 2) (.rng (.lit (.int 0)) (.var 0)) (.cmp (.var 2) (.one .notIn (.var 1))) [2]) [.v (.int c), .v (eT S), .un] = .ok (.nw (.l ((fre c S).map .int))) [.v (.int c), .v (eT S), .un] := by
    rw [lc_map (rngI 0 c) .int (fun p => !decide (p ∈ S)) .int]
    · rfl
    · simp [rngD_eq]
      exact rngOk_k (by omega) (by omega) (by omega) (by omega)
    · simp [freeE_cons]
    · intro a ha
      exact ⟨_, by simp [asg, wipeE, setS_eq]; rfl, by simp [wipeE], by simp [eT], fun _ => by simp⟩
  have f := all_sets_ok n (fre c S) (fre_len S h0 h1)
  simp only [s_seq, s_ret]
  simp [st, f]
/-- a loop that returns the first -/
theorem forL_find {α : Type} {tg : Tg} {b : En → Res Fl} (enc : α → D) (I : En → Prop) (p : α → Bool) (out : α → R) : ∀ (l : List α) (ρ : En), I ρ →
    (∀ a ρ, a ∈ l → I ρ → ∃ ρ1, asg tg (enc a) ρ = .ok () ρ1 ∧ ∃ ρ2, I ρ2 ∧ b ρ1 = if p a = true then .ok (.rt (out a)) ρ2 else .ok .nx ρ2) →
    ∃ ρ', I ρ' ∧ forL tg b (l.map enc) ρ = match l.find? p with | some a => .ok (.rt (out a)) ρ' | none => .ok .nx ρ'
  | [], ρ, h, _ => ⟨ρ, h, rfl⟩
  | a :: l, ρ, h, hs => by
    obtain ⟨ρ1, e1, ρ2, h2, e2⟩ := hs a ρ (List.mem_cons_self ..) h
    rw [List.map_cons, forL, e1]
    simp only [bnd_ok, e2, List.find?_cons]
    cases p a with
    | true => exact ⟨ρ2, h2, rfl⟩
    | false =>
      simp
      exact forL_find enc I p out l ρ2 h2 fun x ρ hx => hs x ρ (List.mem_cons_of_mem _ hx)
theorem amount_any (n : Nat) {d : D} (h : nDict d = true) : sem T (n+2) 91 [d] = if isI d 0 1000000000000000 = true then .ret (.v .none) [] else .ex "InvalidNumber" := by
  rw [sem_at (fd := a_require_amount) rfl]
  have e := is_integer_any n 0 1000000000000000 h
  cases q : isI d 0 1000000000000000 <;> simp [runF, startE, a_require_amount, e, q]
def few (L : Lay) (a : Int) (S : List Int) : D := match (subsF (fre L.c S)).find? (fun P => decide (a ≤ frd P L.rows)) with
  | some P => eT P
  | none => .none
theorem fewest_ok (n : Nat) {L : Lay} (hL : WL L) {S : List Int} (hS : VS L.c S) {a : Int} (a0 : 0 ≤ a) (a1 : a ≤ 1000000000000000) : sem T (n+5) 92 [eL L, .int a, eT S] = .ret (.v (few L a S)) [] := by
  have c0 := hL.c0
  have c1 := hL.c1
  rw [sem_at (fd := a_fewest_for) rfl]
  show outF a_fewest_for (evS (sem T (n+4)) a_fewest_for.body [.v (eL L), .v (.int a), .v (eT S), .un]) = _
  unfold a_fewest_for
  dsimp only
  have e0 : ixD (eL L) (.int 0) = some (.int L.c) := by simp [eL]
  have r1 := ok_require_layout n L (lay_ok hL)
  have r2 := amount_any (n+2) (d := .int a) rfl
  rw [isI_int, show inB a 0 1000000000000000 = true by unfold inB; simp; omega, if_pos rfl] at r2
  have r3 := ok_require_set (n+2) L.c S (set_ok hS)
  have r4 := free_ok (n+2) S c0 c1
  rw [seq_nx (ρ' := [.v (eL L), .v (.int a), .v (eT S), .un]) (by simp [r1]), seq_nx (ρ' := [.v (eL L), .v (.int a), .v (eT S), .un]) (by simp [r2]), seq_nx (ρ' := [.v (eL L), .v (.int a), .v (eT S), .un]) (by simp [r3, e0]), s_seq, s_for]
  have hev : evI (sem T (n+4)) (.seq (.call 14 (.cons (.ix (.var 0) (.lit (.int 0))) (.cons (.var 2) .nil)))) [.v (eL L), .v (.int a), .v (eT S), .un] = .ok ((subsF (fre L.c S)).map eT) [.v (eL L), .v (.int a), .v (eT S), .un] := by simp [e0, r4]
  rw [hev]
  simp only [bnd_ok]
  obtain ⟨ρ', ⟨s, rfl, hs⟩, e⟩ := forL_find (tg := .nm 3) (b := evS (sem T (n+4)) (.seq (.ite (.cmp (.call 7 (.cons (.var 0) (.cons (.var 3) .nil))) (.one .ge (.var 1))) (.seq (.ret (.var 3)) .skip) .skip) .skip)) eT
    (fun ρ => ∃ s, ρ = [.v (eL L), .v (.int a), .v (eT S), s] ∧ Frs (some s) = true) (fun P => decide (a ≤ frd P L.rows)) (fun P => .v (eT P)) (subsF (fre L.c S)) [.v (eL L), .v (.int a), .v (eT S), .un] ⟨_, rfl, rfl⟩ (by
      rintro P ρ hP ⟨s, rfl, hs⟩
      refine ⟨_, by simp [asg, setS_eq, hs] <;> rfl, _, ⟨.v (eT P), rfl, rfl⟩, ?_⟩
      have f := ok_freed_by (n+3) L P (lay_small (lay_ok hL))
      cases q : decide (a ≤ frd P L.rows) <;> simp [f, q])
  rw [e]
  unfold few
  cases (subsF (fre L.c S)).find? (fun P => decide (a ≤ frd P L.rows)) <;> simp
end Tx

namespace Tx
open PySem PySem.Spec L2 Sn Mx
theorem shp_eT (P : List Int) : SeqAt.shaped (eT P) = true := shp_intsT P
theorem shp_few (L : Lay) (a : Int) (S : List Int) : SeqAt.shaped (few L a S) = true := by
  unfold few
  cases (subsF (fre L.c S)).find? (fun P => decide (a ≤ frd P L.rows)) with
  | none => rfl
  | some P => exact shp_eT P
theorem canLay_eT : ∀ l : List (List Int), PyData.canLayAll0 (l.map eT) = true
  | [] => rfl
  | a :: l => by rw [List.map_cons, PyData.canLayAll0, canLay_eT l, eT, PyData.canLay0, canLay_ints]; rfl
theorem depth_eT : ∀ l : List (List Int), PyData.depthAll (l.map eT) ≤ 1
  | [] => Nat.zero_le _
  | a :: l => by
    have := depth_eT l
    rw [List.map_cons, PyData.depthAll]
    have : PyData.depth (eT a) = 1 := by unfold eT; simp [PyData.depth, depth_ints]
    omega
theorem shp_sets (l : List (List Int)) : SeqAt.shaped (.list (l.map eT)) = true := by
  have := depth_eT l
  unfold SeqAt.shaped
  rw [PyData.canLay0, canLay_eT, PyData.depth, Bool.true_and, decide_eq_true_eq]; omega
theorem ne_nilS (l : List (List Int)) : cmpD .ne (.list (l.map eT)) (.list []) = some (!decide (l = [])) := by
  show (if (SeqAt.shaped (.list (l.map eT)) && SeqAt.shaped (.list [])) = true then some (!PyData.eqv (.list (l.map eT)) (.list [])) else none) = _
  rw [shp_sets, show SeqAt.shaped (.list []) = true from rfl, show (true && true) = true from rfl, if_pos rfl, PyData.eqv]
  cases l <;> rfl
theorem pw15 : binD .pow (.int 10) (.int 15) = some (.v (.int 1000000000000000)) := by
  show (if powOk 10 15 = true then some (R.v (.int (10 ^ (15 : Int).toNat))) else none) = _
  rw [if_pos (by decide +kernel), show (15 : Int).toNat = 15 from rfl, show (10 : Int) ^ 15 = 1000000000000000 by decide +kernel]
theorem ix_map {α : Type} (f : α → D) (l : List α) (v : Int) (h0 : 0 ≤ v) (h1 : v < l.length) : ∃ a ∈ l, ixD (.list (l.map f)) (.int v) = some (f a) := by
  obtain ⟨k, rfl⟩ : ∃ k : Nat, v = k := ⟨v.toNat, by omega⟩
  have hk : k < l.length := by omega
  refine ⟨l[k], List.getElem_mem hk, ?_⟩
  show atI (l.map f) (k : Int) = _
  rw [atI_nat _ _ (by rw [List.length_map]; exact hk), List.getElem_map]
theorem ix_mapLast {α : Type} (f : α → D) (l : List α) (h : l ≠ []) : ∃ a ∈ l, ixD (.list (l.map f)) (.int (-1)) = some (f a) :=
  ⟨l.getLast h, List.getLast_mem h, by rw [ix_last _ (by simpa using h), List.getLast_map]⟩
theorem frd_tot (S : List Int) : ∀ {rows : List Rw}, (∀ r ∈ rows, 1 ≤ r.2.2) → frd S rows ≤ tot rows
  | [], _ => Int.le_refl _
  | r :: rem, h => by
    have := frd_tot S (rows := rem) fun a ha => h a (List.mem_cons_of_mem _ ha)
    have := h r (List.mem_cons_self ..)
    rw [frd_cons, tot_cons]
    split <;> omega
/-- a row of the law's list -/
def eQ (L : Lay) (P : List Int) : D := .tuple [eT P, .int (frd P L.rows)]
/-- an amount that can be asked -/
def isA (a : Int) : Prop := 0 ≤ a ∧ a ≤ 1000000000000000
theorem prot_ok (n : Nat) {c : Int} {io : List D} (hio : Src io) (h0 : 0 ≤ c) (h1 : c ≤ 10) {a0 a1 a3 s5 a6 a7 a8 a9 a10 a11 a12 : Sl} (h5 : Frs (some s5) = true) : ∃ io' S, Src io' ∧ VS c S ∧
    evS (sem T (n+2)) (.set 5 (.ite (.cmp (.callIO 39 2 (.cons (.lit (.int 2)) .nil)) (.one .eq (.lit (.int 0)))) (.callIO 55 2 (.cons (.var 4) .nil)) (.tup .nil))) [a0, a1, .ow false (.l io), a3, .v (.int c), s5, a6, a7, a8, a9, a10, a11, a12, .un, .un] =
      .ok .nx [a0, a1, .ow false (.l io'), a3, .v (.int c), .v (eT S), a6, a7, a8, a9, a10, a11, a12, .un, .un] := by
  obtain ⟨v, io1, v0, v1, hio1, e1⟩ := pick_ok (n+1) hio (size := 2) (by omega) (by omega)
  have et : PyData.tuple [] = eT [] := rfl
  by_cases hv : v = 0
  · obtain ⟨io2, S, hio2, hS, e2⟩ := set_drawn n hio1 h0 h1
    exact ⟨io2, S, hio2, hS, by simp [e1, hv, e2, setS_eq, h5]⟩
  · exact ⟨io1, [], hio1, ⟨(fun v hv => by cases hv), List.Pairwise.nil⟩, by simp [e1, hv, setS_eq, h5, et]⟩
theorem rows_ok (n : Nat) {L : Lay} (hL : WL L) {S : List Int} {a0 a1 a2 s7 a8 a9 a10 a11 a12 : Sl} (h7 : Frs (some s7) = true) : ∃ s7', Frs (some s7') = true ∧ Fre (some s7') = true ∧
    evS (sem T (n+2)) (.for_ (.nm 7) (.seq (.call 58 (.cons (.lc (.var 13) (.nm 13) (.rng (.lit (.int 0)) (.var 4)) (.cmp (.var 13) (.one .notIn (.var 5))) [13]) .nil))) (.seq (.ex (.app 6 (.tup (.cons (.var 7) (.cons (.call 52 (.cons (.var 3) (.cons (.var 7) .nil))) .nil))))) .skip))
      [a0, a1, a2, .v (eL L), .v (.int L.c), .v (eT S), .ow false (.l []), s7, a8, a9, a10, a11, a12, .un, .un] =
      .ok .nx [a0, a1, a2, .v (eL L), .v (.int L.c), .v (eT S), .ow false (.l ((subsF (fre L.c S)).map (eQ L))), s7', a8, a9, a10, a11, a12, .un, .un] := by
  have c0 := hL.c0
  have c1 := hL.c1
  have fl := fre_len S c0 c1
  have sl := subsF_len _ fl
  have st : evE (sem T (n+2)) (.lc (.var 13) (.nm 13) (.rng (.lit (.int 0)) (.var 4)) (.cmp (.var 13) (.one .notIn (.var 5))) [13]) [a0, a1, a2, .v (eL L), .v (.int L.c), .v (eT S), .ow false (.l []), s7, a8, a9, a10, a11, a12, .un, .un] =
      .ok (.nw (.l ((fre L.c S).map .int))) [a0, a1, a2, .v (eL L), .v (.int L.c), .v (eT S), .ow false (.l []), s7, a8, a9, a10, a11, a12, .un, .un] := by
    rw [lc_map (rngI 0 L.c) .int (fun p => !decide (p ∈ S)) .int]
    · rfl
    · simp [rngD_eq]
      exact rngOk_k (by omega) (by omega) (by omega) (by omega)
    · simp [freeE_cons]
    · intro a ha
      exact ⟨_, by simp [asg, wipeE, setS_eq]; rfl, by simp [wipeE], by simp [eT], fun _ => by simp⟩
  have sb := subs_ok (n+1) (fre L.c S) fl
  obtain ⟨ρ', e, done, s7', rfl, h7', hf, hd⟩ := forL_run (Φ := sem T (n+2)) (tg := .nm 7) (it := .seq (.call 58 (.cons (.lc (.var 13) (.nm 13) (.rng (.lit (.int 0)) (.var 4)) (.cmp (.var 13) (.one .notIn (.var 5))) [13]) .nil)))
    (b := .seq (.ex (.app 6 (.tup (.cons (.var 7) (.cons (.call 52 (.cons (.var 3) (.cons (.var 7) .nil))) .nil))))) .skip)
    (ρ := [a0, a1, a2, .v (eL L), .v (.int L.c), .v (eT S), .ow false (.l []), s7, a8, a9, a10, a11, a12, .un, .un]) (subsF (fre L.c S)) eT
    (fun rem ρ => ∃ done s7, ρ = [a0, a1, a2, .v (eL L), .v (.int L.c), .v (eT S), .ow false (.l (done.map (eQ L))), s7, a8, a9, a10, a11, a12, .un, .un] ∧ Frs (some s7) = true ∧ (done ≠ [] → Fre (some s7) = true) ∧ done ++ rem = subsF (fre L.c S))
    (by simp [st, sb]) ⟨[], s7, rfl, h7, (fun h => absurd rfl h), rfl⟩ (by
      rintro P rem ρ ⟨done, s7, rfl, h7, _, hd⟩
      refine ⟨_, by simp [asg, setS_eq, h7] <;> rfl, ?_⟩
      have f := lawfreed_ok (n+1) L P (lay_small (lay_ok hL))
      have hl : done.length < sizeLine := by
        have : done.length ≤ (subsF (fre L.c S)).length := by rw [← hd, List.length_append]; omega
        unfold sizeLine; omega
      refine ⟨_, go_seq (ρ' := [a0, a1, a2, .v (eL L), .v (.int L.c), .v (eT S), .ow false (.l ((done ++ [P]).map (eQ L))), .v (eT P), a8, a9, a10, a11, a12, .un, .un]) (by simp [f, hl, eQ]) rfl, done ++ [P], _, rfl, rfl, fun _ => rfl, by rw [← hd]; simp⟩)
  rw [List.append_nil] at hd
  have hne : done ≠ [] := fun h => by
    have : [] ∈ subsF (fre L.c S) := mem_subsF.mpr (List.nil_sublist _)
    rw [← hd, h] at this; cases this
  exact ⟨s7', h7', hf hne, by rw [e, hd]⟩
theorem more_ok (n : Nat) {L : Lay} (hL : WL L) (ht : tot L.rows ≤ 1000000000000) {F : List (List Int)} (hF : F ≠ []) (hl : F.length ≤ 1024) {A : List Int} (hA : ∀ a ∈ A, isA a) (hAl : A.length ≤ 50) {io : List D} (hio : Src io) {a0 a1 a3 a4 a5 a7 s9 a10 a11 a12 : Sl} (h9 : Frs (some s9) = true) : ∃ (io' : List D) (A' : List Int) (s9' : Sl), Src io' ∧ (∀ a ∈ A', isA a) ∧ Frs (some s9') = true ∧
    evS (sem T (n+2)) (.for_ (.nm 9) (.rng (.lit (.int 0)) (.lit (.int 6))) (.seq (.ex (.app 8 (.bi .max2 (.cons (.lit (.int 0)) (.cons (.bin .sub (.bin .add (.ix (.ix (.var 6) (.callIO 39 2 (.cons (.bi .len (.cons (.var 6) .nil)) .nil))) (.lit (.int 1))) (.callIO 39 2 (.cons (.lit (.int 3)) .nil))) (.lit (.int 1))) .nil))))) .skip))
      [a0, a1, .ow false (.l io), a3, a4, a5, .ow false (.l (F.map (eQ L))), a7, .ow false (.l (A.map .int)), s9, a10, a11, a12, .un, .un] =
      .ok .nx [a0, a1, .ow false (.l io'), a3, a4, a5, .ow false (.l (F.map (eQ L))), a7, .ow false (.l (A'.map .int)), s9', a10, a11, a12, .un, .un] := by
  have hp : 0 < F.length := List.length_pos_iff.mpr hF
  obtain ⟨ρ', e, io', A', s9', rfl, q1, q2, q3, _⟩ := forL_run (Φ := sem T (n+2)) (tg := .nm 9) (it := .rng (.lit (.int 0)) (.lit (.int 6)))
    (b := .seq (.ex (.app 8 (.bi .max2 (.cons (.lit (.int 0)) (.cons (.bin .sub (.bin .add (.ix (.ix (.var 6) (.callIO 39 2 (.cons (.bi .len (.cons (.var 6) .nil)) .nil))) (.lit (.int 1))) (.callIO 39 2 (.cons (.lit (.int 3)) .nil))) (.lit (.int 1))) .nil))))) .skip)
    (ρ := [a0, a1, .ow false (.l io), a3, a4, a5, .ow false (.l (F.map (eQ L))), a7, .ow false (.l (A.map .int)), s9, a10, a11, a12, .un, .un]) (rngI 0 6) .int
    (fun rem ρ => ∃ io A s9, ρ = [a0, a1, .ow false (.l io), a3, a4, a5, .ow false (.l (F.map (eQ L))), a7, .ow false (.l (A.map .int)), s9, a10, a11, a12, .un, .un] ∧ Src io ∧ (∀ a ∈ A, isA a) ∧ Frs (some s9) = true ∧ A.length + rem.length ≤ 100)
    (by simp [rngD_eq]; exact rngOk_k (by omega) (by omega) (by omega) (by omega)) ⟨io, A, s9, rfl, hio, hA, h9, by show A.length + 6 ≤ 100; omega⟩ (by
      rintro t rem ρ ⟨io, A, s9, rfl, hio, hA, h9, hAl⟩
      refine ⟨_, by simp [asg, setS_eq, h9] <;> rfl, ?_⟩
      obtain ⟨v, io1, v0, v1, hio1, e1⟩ := pick_ok (n+1) hio (size := (F.length : Int)) (by omega) (by omega)
      obtain ⟨w, io2, w0, w1, hio2, e2⟩ := pick_ok (n+1) hio1 (size := 3) (by omega) (by omega)
      obtain ⟨P, hP, e3⟩ := ix_map (eQ L) F v v0 v1
      have e4 : ixD (eQ L P) (.int 1) = some (.int (frd P L.rows)) := by unfold eQ; simp
      have f0 := frd_nn P hL.pos
      have f1 := frd_tot P hL.pos
      obtain ⟨m, m0, e5⟩ : ∃ m : Int, isA m ∧ biD .max2 [.int 0, .int (frd P L.rows + w - 1)] = some (.v (.int m)) := ⟨_, by unfold isA; split <;> omega, rfl⟩
      simp only [List.length_cons] at hAl
      have hs : A.length < sizeLine := by unfold sizeLine; omega
      refine ⟨_, go_seq (ρ' := [a0, a1, .ow false (.l io2), a3, a4, a5, .ow false (.l (F.map (eQ L))), a7, .ow false (.l ((A ++ [m]).map .int)), .v (.int t), a10, a11, a12, .un, .un]) (by simp [e1, e2, e3, e4, e5, hs]) rfl, io2, A ++ [m], _, rfl, hio2, ?_, rfl, ?_⟩
      · intro a ha
        rcases List.mem_append.mp ha with h | h
        · exact hA a h
        · rw [List.mem_singleton.mp h]; exact m0
      · rw [List.length_append]; show A.length + 1 + rem.length ≤ 100; omega)
  exact ⟨io', A', s9', q1, q2, q3, e⟩
theorem first_ok (L : Lay) (S : List Int) (a : Int) : (((subsF (fre L.c S)).filter fun P => decide (a ≤ frd P L.rows)) = [] ∧ few L a S = .none) ∨ ∃ P r, ((subsF (fre L.c S)).filter fun P => decide (a ≤ frd P L.rows)) = P :: r ∧ few L a S = eT P := by
  unfold few
  have h := List.head?_filter (p := fun P => decide (a ≤ frd P L.rows)) (l := subsF (fre L.c S))
  cases q : (subsF (fre L.c S)).filter fun P => decide (a ≤ frd P L.rows) with
  | nil => rw [q] at h; rw [← h]; exact .inl ⟨rfl, rfl⟩
  | cons P r => rw [q] at h; rw [← h]; exact .inr ⟨P, r, rfl, rfl⟩
end Tx

namespace Tx
open PySem PySem.Spec L2 Sn Mx
theorem good_ok (n : Nat) (L : Lay) (F : List (List Int)) (a : Int) {a0 a1 a2 a3 a4 a5 s6 s7 a8 a9 a11 a12 : Sl} (h6 : s6 = .ow false (.l (F.map (eQ L))) ∨ s6 = .v (.list (F.map (eQ L)))) (h7 : Fre (some s7) = true) :
    evE (sem T n) (.lc (.var 7) (.tp (.cs (.nm 7) (.cs (.nm 14) .nl))) (.seq (.var 6)) (.cmp (.var 14) (.one .ge (.var 10))) [7, 14])
      [a0, a1, a2, a3, a4, a5, s6, s7, a8, a9, .v (.int a), a11, a12, .un, .un] =
      .ok (.nw (.l ((F.filter fun P => decide (a ≤ frd P L.rows)).map eT))) [a0, a1, a2, a3, a4, a5, .v (.list (F.map (eQ L))), s7, a8, a9, .v (.int a), a11, a12, .un, .un] := by
  rw [lc_mapE [a0, a1, a2, a3, a4, a5, .v (.list (F.map (eQ L))), s7, a8, a9, .v (.int a), a11, a12, .un, .un] F (eQ L) (fun P => decide (a ≤ frd P L.rows)) eT]
  · rcases h6 with rfl | rfl <;> simp
  · simp [freeE_cons, h7]
  · intro P hP
    refine ⟨_, by simp [asg, eQ, wipeE, setS_eq]; rfl, by simp [wipeE], by simp, fun _ => by simp⟩
theorem amt_ok (n : Nat) {L : Lay} (hL : WL L) {S : List Int} (hS : VS L.c S) {A : List Int} (hA : ∀ a ∈ A, isA a) {a0 a1 a2 s7 a9 s10 a11 s12 : Sl} (h7 : Fre (some s7) = true) (h10 : Frs (some s10) = true) (h12 : Frs (some s12) = true) : ∃ s6' s8' s10' s12', Frs (some s6') = true ∧ Frs (some s8') = true ∧ Frs (some s10') = true ∧ Frs (some s12') = true ∧
    evS (sem T (n+5)) (.for_ (.nm 10) (.seq (.var 8)) (.seq (.set 12 (.lc (.var 7) (.tp (.cs (.nm 7) (.cs (.nm 14) .nl))) (.seq (.var 6)) (.cmp (.var 14) (.one .ge (.var 10))) [7, 14]))
    (.seq (.ite (.cmp (.call 92 (.cons (.var 3) (.cons (.var 10) (.cons (.var 5) .nil)))) (.one .ne (.ite (.cmp (.var 12) (.one .ne (.lst .nil))) (.ix (.var 12) (.lit (.int 0))) (.lit .none)))) (.seq (.ret (.lit (.bool false)))
    .skip) .skip)
    .skip))) [a0, a1, a2, .v (eL L), .v (.int L.c), .v (eT S), .ow false (.l ((subsF (fre L.c S)).map (eQ L))), s7, .ow false (.l (A.map .int)), a9, s10, a11, s12, .un, .un] =
      .ok .nx [a0, a1, a2, .v (eL L), .v (.int L.c), .v (eT S), s6', s7, s8', a9, s10', a11, s12', .un, .un] := by
  obtain ⟨ρ', e, s6', s10', s12', rfl, h6', h10', h12', _⟩ := forL_run (Φ := sem T (n+5)) (tg := .nm 10) (it := .seq (.var 8))
    (b := (.seq (.set 12 (.lc (.var 7) (.tp (.cs (.nm 7) (.cs (.nm 14) .nl))) (.seq (.var 6)) (.cmp (.var 14) (.one .ge (.var 10))) [7, 14]))
    (.seq (.ite (.cmp (.call 92 (.cons (.var 3) (.cons (.var 10) (.cons (.var 5) .nil)))) (.one .ne (.ite (.cmp (.var 12) (.one .ne (.lst .nil))) (.ix (.var 12) (.lit (.int 0))) (.lit .none)))) (.seq (.ret (.lit (.bool false)))
    .skip) .skip)
    .skip)))
    (ρ := [a0, a1, a2, .v (eL L), .v (.int L.c), .v (eT S), .ow false (.l ((subsF (fre L.c S)).map (eQ L))), s7, .ow false (.l (A.map .int)), a9, s10, a11, s12, .un, .un]) A .int
    (fun rem ρ => ∃ s6 s10 s12, ρ = [a0, a1, a2, .v (eL L), .v (.int L.c), .v (eT S), s6, s7, .v (.list (A.map .int)), a9, s10, a11, s12, .un, .un] ∧ (s6 = .ow false (.l ((subsF (fre L.c S)).map (eQ L))) ∨ s6 = .v (.list ((subsF (fre L.c S)).map (eQ L)))) ∧ Frs (some s10) = true ∧ Frs (some s12) = true ∧ ∀ a ∈ rem, isA a)
    (ρ0 := [a0, a1, a2, .v (eL L), .v (.int L.c), .v (eT S), .ow false (.l ((subsF (fre L.c S)).map (eQ L))), s7, .v (.list (A.map .int)), a9, s10, a11, s12, .un, .un])
    (by simp) ⟨_, _, _, rfl, .inl rfl, h10, h12, hA⟩ (by
      rintro a rem ρ ⟨s6, s10, s12, rfl, h6, h10, h12, hm⟩
      refine ⟨_, by simp [asg, setS_eq, h10] <;> rfl, ?_⟩
      obtain ⟨q0, q1⟩ := hm a (List.mem_cons_self ..)
      have g := good_ok (n+5) L (subsF (fre L.c S)) a (a0 := a0) (a1 := a1) (a2 := a2) (a3 := .v (eL L)) (a4 := .v (.int L.c)) (a5 := .v (eT S)) (a8 := .v (.list (A.map .int))) (a9 := a9) (a11 := a11) (a12 := s12) h6 h7
      have f := fewest_ok n hL hS q0 q1
      have nz := ne_nilS ((subsF (fre L.c S)).filter fun P => decide (a ≤ frd P L.rows))
      refine ⟨_, go_seq (ρ' := [a0, a1, a2, .v (eL L), .v (.int L.c), .v (eT S), .v (.list ((subsF (fre L.c S)).map (eQ L))), s7, .v (.list (A.map .int)), a9, .v (.int a), a11, .ow false (.l (((subsF (fre L.c S)).filter fun P => decide (a ≤ frd P L.rows)).map eT)), .un, .un]) (by rw [s_set, g]; simp [setS_eq, h12])
        (go_seq (ρ' := [a0, a1, a2, .v (eL L), .v (.int L.c), .v (eT S), .v (.list ((subsF (fre L.c S)).map (eQ L))), s7, .v (.list (A.map .int)), a9, .v (.int a), a11, .ow false (.l (((subsF (fre L.c S)).filter fun P => decide (a ≤ frd P L.rows)).map eT)), .un, .un]) ?_ rfl), _, _, _, rfl, .inr rfl, rfl, rfl, fun x hx => hm x (List.mem_cons_of_mem _ hx)⟩
      rcases first_ok L S a with ⟨z, e⟩ | ⟨P, r, z, e⟩
      · rw [z] at nz ⊢
        rw [e] at f
        have ne : cmpD .ne .none .none = some false := ne_self rfl
        simp at nz
        simp [f, nz, ne]
      · rw [z] at nz ⊢
        rw [e] at f
        have ne := ne_self (shp_eT P)
        simp at nz
        simp [f, nz, ne])
  refine ⟨s6', _, s10', s12', ?_, rfl, h10', h12', e⟩
  rcases h6' with rfl | rfl <;> rfl
theorem enm_num : enm "InvalidNumber" = some "number" := by decide +kernel
theorem outcome_k13 (n : Nat) {L : Lay} (hL : WL L) {d : D} (h : nDict d = true) (hb : isI d 0 1000000000000000 = false) : sem T (n+6) 93 [eL L, d] = .ret (.v (.str "number")) [] := by
  have f : sem T (n+5) 92 [eL L, d, .none] = .ex "InvalidNumber" := by
    rw [sem_at (fd := a_fewest_for) rfl]
    have r := amount_any (n+2) h
    rw [hb] at r
    simp [runF, startE, a_fewest_for, ok_require_layout _ L (lay_ok hL), r]
  rw [sem_at (fd := a__law_outcome_k13) rfl]
  simp [runF, startE, a__law_outcome_k13, f, tryF_ex enm_num]
def oddN : List D := [.int (-1), .int 1000000000000001, .none, .bool true, .str "1"]
theorem oddN_ok : ∀ d ∈ oddN, nDict d = true ∧ isI d 0 1000000000000000 = false := by
  intro d hd
  simp only [oddN, List.mem_cons, List.not_mem_nil, or_false] at hd
  rcases hd with rfl | rfl | rfl | rfl | rfl <;> exact ⟨rfl, by decide +kernel⟩
theorem ne_number : cmpD .ne (.str "number") (.str "number") = some false := ne_self (by decide +kernel)
theorem odd_ok (n : Nat) {L : Lay} (hL : WL L) {a0 a1 a2 a4 a5 a6 a7 a8 a9 a10 s11 a12 : Sl} (h11 : Frs (some s11) = true) : ∃ s11', Frs (some s11') = true ∧
    evS (sem T (n+6)) (.for_ (.nm 11) (.seq (.lst (.cons (.neg (.lit (.int 1))) (.cons (.bin .add (.bin .pow (.lit (.int 10)) (.lit (.int 15))) (.lit (.int 1))) (.cons (.lit .none) (.cons (.lit (.bool true)) (.cons (.lit (.str "1")) .nil))))))) (.seq (.ite (.cmp (.call 93 (.cons (.var 3) (.cons (.var 11) .nil))) (.one .ne (.lit (.str "number")))) (.seq (.ret (.lit (.bool false)))
    .skip) .skip)
    .skip)) [a0, a1, a2, .v (eL L), a4, a5, a6, a7, a8, a9, a10, s11, a12, .un, .un] =
      .ok .nx [a0, a1, a2, .v (eL L), a4, a5, a6, a7, a8, a9, a10, s11', a12, .un, .un] := by
  obtain ⟨ρ', e, s11', rfl, h11', _⟩ := forL_run (Φ := sem T (n+6)) (tg := .nm 11) (it := .seq (.lst (.cons (.neg (.lit (.int 1))) (.cons (.bin .add (.bin .pow (.lit (.int 10)) (.lit (.int 15))) (.lit (.int 1))) (.cons (.lit .none) (.cons (.lit (.bool true)) (.cons (.lit (.str "1")) .nil)))))))
    (b := (.seq (.ite (.cmp (.call 93 (.cons (.var 3) (.cons (.var 11) .nil))) (.one .ne (.lit (.str "number")))) (.seq (.ret (.lit (.bool false))) .skip) .skip) .skip))
    (ρ := [a0, a1, a2, .v (eL L), a4, a5, a6, a7, a8, a9, a10, s11, a12, .un, .un]) oddN id
    (fun rem ρ => ∃ s11, ρ = [a0, a1, a2, .v (eL L), a4, a5, a6, a7, a8, a9, a10, s11, a12, .un, .un] ∧ Frs (some s11) = true ∧ ∀ d ∈ rem, d ∈ oddN)
    (by simp [oddN, pw15, sizeLine]) ⟨s11, rfl, h11, fun _ h => h⟩ (by
      rintro d rem ρ ⟨s11, rfl, h11, hm⟩
      obtain ⟨o1, o2⟩ := oddN_ok d (hm d (List.mem_cons_self ..))
      have oc := outcome_k13 n hL o1 o2
      exact ⟨_, by simp [asg, setS_eq, h11] <;> rfl, _, go_seq (by simp [oc, ne_number] <;> rfl) rfl, _, rfl, rfl, fun x hx => hm x (List.mem_cons_of_mem _ hx)⟩)
  exact ⟨s11', h11', e⟩
def I_k13 (ns : List Int) (rem : List Int) (ρ : En) : Prop := ∃ s1 s2 s3 s4 s5 s6 s7 s8 s9 s10 s11 s12, ρ = [.v (scr (ns.map .int)), s1, s2, s3, s4, s5, s6, s7, s8, s9, s10, s11, s12, .un, .un] ∧
  (Frs (some s1) = true ∧ Frs (some s2) = true ∧ Frs (some s3) = true ∧ Frs (some s4) = true ∧ Frs (some s5) = true ∧ Frs (some s6) = true) ∧
  (Frs (some s7) = true ∧ Frs (some s8) = true ∧ Frs (some s9) = true ∧ Frs (some s10) = true ∧ Frs (some s11) = true ∧ Frs (some s12) = true) ∧ ∀ k ∈ rem, 0 ≤ k ∧ k < 1000
theorem few_w : few ⟨2, [(0, 1, 10), (1, 1, 4)]⟩ 5 [] = eT [0, 1] := by
  have e1 : subsU (fre 2 []) = [[], [0], [1], [0, 1]] := by decide +kernel
  have e2 : ([[], [0], [1], [0, 1]] : List (List Int)).mergeSort leP = [[], [0], [1], [0, 1]] := List.mergeSort_of_pairwise (by decide +kernel)
  unfold few subsF
  dsimp only
  rw [e1, e2]
  have e3 : ([[], [0], [1], [0, 1]] : List (List Int)).find? (fun P => decide ((5 : Int) ≤ frd P [(0, 1, 10), (1, 1, 4)])) = some [0, 1] := by decide +kernel
  rw [e3]
theorem math_k13 (ns : List Int) (hns : ns.length ≤ 63) : ∃ io, sem T 16 94 [scr (ns.map .int)] = .ret (.v (.bool true)) io := by
  rw [sem_at (fd := a_law_k13) rfl]
  show ∃ io, outF a_law_k13 (evS (sem T 15) a_law_k13.body [.v (scr (ns.map .int)), .un, .un, .un, .un, .un, .un, .un, .un, .un, .un, .un, .un, .un, .un]) = _
  unfold a_law_k13
  dsimp only
  rw [s_seq]
  obtain ⟨m, m0, m1, em⟩ := law_rng 15 ns (a := 5) (b := 16) (ρ := [.v (scr (ns.map .int)), .un, .un, .un, .un, .un, .un, .un, .un, .un, .un, .un, .un, .un, .un]) (by omega) (by omega) (by omega) rfl
  refine for_kE (fun x => ∃ io, outF _ x = .ret (.v (.bool true)) io) _ (rngI 0 m) .int (I_k13 ns) em ⟨_, _, _, _, _, _, _, _, _, _, _, _, rfl, ⟨rfl, rfl, rfl, rfl, rfl, rfl⟩, ⟨rfl, rfl, rfl, rfl, rfl, rfl⟩, fun k hk => by have := mem_rngI.mp hk; omega⟩ ?_ ?_
  · rintro k rem ρ ⟨s1, s2, s3, s4, s5, s6, s7, s8, s9, s10, s11, s12, rfl, ⟨h1, h2, h3, h4, h5, h6⟩, ⟨h7, h8, h9, h10, h11, h12⟩, hk⟩
    obtain ⟨k0, k1⟩ := hk k (List.mem_cons_self ..)
    refine ⟨_, by simp [asg, setS_eq, h1] <;> rfl, ?_⟩
    obtain ⟨j, rfl⟩ : ∃ j : Nat, k = j := ⟨k.toNat, by omega⟩
    obtain ⟨io1, hio1, e1⟩ := source_ok 14 ns j (by omega)
    obtain ⟨v, io2, v0, v1, hio2, e2⟩ := pick_ok 14 hio1 (size := 2) (by omega) (by omega)
    obtain ⟨most, q0, q1, e3⟩ : ∃ most : Int, 0 ≤ most ∧ most ≤ 10 ∧ ixD (.list [.int 5, .int 9]) (.int v) = some (.int most) := by
      have : v = 0 ∨ v = 1 := by omega
      rcases this with rfl | rfl
      · exact ⟨5, by omega, by omega, rfl⟩
      · exact ⟨9, by omega, by omega, rfl⟩
    obtain ⟨io3, L, hio3, hL, _, ht, e4⟩ := lay_drawn' 13 hio2 (most := most) q0 q1
    have c0 := hL.c0
    have c1 := hL.c1
    have e5 : ixD (eL L) (.int 0) = some (.int L.c) := by simp [eL]
    obtain ⟨io4, S, hio4, hS, e6⟩ := prot_ok 13 hio3 c0 c1 (a0 := .v (scr (ns.map .int))) (a1 := .v (.int j)) (a3 := .v (eL L)) (a6 := s6) (a7 := s7) (a8 := s8) (a9 := s9) (a10 := s10) (a11 := s11) (a12 := s12) h5
    obtain ⟨s7', h7', f7', e7⟩ := rows_ok 13 hL (S := S) (a0 := .v (scr (ns.map .int))) (a1 := .v (.int j)) (a2 := .ow false (.l io4)) (a8 := s8) (a9 := s9) (a10 := s10) (a11 := s11) (a12 := s12) h7
    have hne : subsF (fre L.c S) ≠ [] := fun h => by
      have : [] ∈ subsF (fre L.c S) := mem_subsF.mpr (List.nil_sublist _)
      rw [h] at this; cases this
    have sl := subsF_len _ (fre_len S c0 c1)
    obtain ⟨P, hP, e8⟩ := ix_mapLast (eQ L) _ hne
    have e9 : ixD (eQ L P) (.int 1) = some (.int (frd P L.rows)) := by unfold eQ; simp
    have f0 := frd_nn P hL.pos
    have f1 := frd_tot P hL.pos
    obtain ⟨io5, A, s9', hio5, hA, h9', e10⟩ := more_ok 13 hL ht hne sl (A := [0, 1, frd P L.rows, frd P L.rows + 1, 1000000000000000]) (by
      intro a ha
      simp only [List.mem_cons, List.not_mem_nil, or_false] at ha
      unfold isA
      rcases ha with rfl | rfl | rfl | rfl | rfl <;> omega) (by show 5 ≤ 50; omega) hio4 (a0 := .v (scr (ns.map .int))) (a1 := .v (.int j)) (a3 := .v (eL L)) (a4 := .v (.int L.c)) (a5 := .v (eT S)) (a7 := s7') (a10 := s10) (a11 := s11) (a12 := s12) h9
    obtain ⟨s6', s8', s10', s12', h6', h8', h10', h12', e11⟩ := amt_ok 10 hL hS hA (a0 := .v (scr (ns.map .int))) (a1 := .v (.int j)) (a2 := .ow false (.l io5)) (a9 := s9') (a11 := s11) f7' h10 h12
    obtain ⟨s11', h11', e12⟩ := odd_ok 9 hL (a0 := .v (scr (ns.map .int))) (a1 := .v (.int j)) (a2 := .ow false (.l io5)) (a4 := .v (.int L.c)) (a5 := .v (eT S)) (a6 := s6') (a7 := s7') (a8 := s8') (a9 := s9') (a10 := s10') (a12 := s12') h11
    refine ⟨_, go_seq (by simp [e1, setS_eq, h2] <;> rfl) (go_seq (by simp [e2, e3, e4, setS_eq, h3] <;> rfl) (go_seq (by simp [e5, setS_eq, h4] <;> rfl) (go_seq e6 (go_seq (ρ' := [.v (scr (ns.map .int)), .v (.int j), .ow false (.l io4), .v (eL L), .v (.int L.c), .v (eT S), .ow false (.l []), s7, s8, s9, s10, s11, s12, .un, .un]) (by simp [setS_eq, h6]) (go_seq e7
      (go_seq (ρ' := [.v (scr (ns.map .int)), .v (.int j), .ow false (.l io4), .v (eL L), .v (.int L.c), .v (eT S), .ow false (.l ((subsF (fre L.c S)).map (eQ L))), s7', .ow false (.l ([0, 1, frd P L.rows, frd P L.rows + 1, 1000000000000000].map .int)), s9, s10, s11, s12, .un, .un]) (by simp [e8, e9, pw15, setS_eq, h8, sizeLine]) (go_seq e10 (go_seq e11 (go_seq e12 rfl))))))))), _, _, _, _, _, _, _, _, _, _, _, _, rfl, ⟨rfl, rfl, rfl, rfl, rfl, h6'⟩, ⟨h7', h8', h9', h10', h11', h12'⟩, fun k hk' => hk k (List.mem_cons_of_mem _ hk')⟩
  · rintro ρ' ⟨s1, s2, s3, s4, s5, s6, s7, s8, s9, s10, s11, s12, rfl, _, _, _⟩
    refine ⟨[], ?_⟩
    rw [sqF_nx]
    have w1 : sem T 15 92 [.tuple [.int 2, .tuple [.tuple [.int 0, .int 1, .int 10], .tuple [.int 1, .int 1, .int 4]]], .int 5, .tuple []] = .ret (.v (.tuple [.int 0, .int 1])) [] := by
      have hW : WL ⟨2, [(0, 1, 10), (1, 1, 4)]⟩ := ⟨by decide, by decide, (by intro r hr; simp at hr; rcases hr with rfl | rfl <;> (refine ⟨?_, ?_, ?_⟩ <;> decide)), (by intro r hr; simp at hr; rcases hr with rfl | rfl <;> decide), (by simp [Srt]; decide), by decide, by decide⟩
      have := fewest_ok 10 hW (S := []) ⟨(fun v hv => by cases hv), List.Pairwise.nil⟩ (a := 5) (by omega) (by omega)
      rw [few_w] at this; exact this
    have es : cmpD .eq (.tuple [.int 0, .int 1]) (.tuple [.int 0, .int 1]) = some true := eq_self' rfl
    simp [w1, es, sizeLine]
end Tx

namespace Tx
open PySem PySem.Spec L2 Sn Mx
def lLe : List Int → List Int → Bool
  | [], _ => true
  | _ :: _, [] => false
  | x :: a, y :: b => if x = y then lLe a b else decide (x < y)
theorem lLe_lt : ∀ a b : List Int, (!PySem.W.listLt b a) = lLe a b
  | [], [] => rfl
  | [], _ :: _ => rfl
  | _ :: _, [] => rfl
  | x :: a, y :: b => by
    rw [PySem.W.listLt, lLe]
    by_cases h : x = y
    · rw [if_pos h, if_pos h.symm, lLe_lt a b]
    · rw [if_neg h, if_neg (fun e => h e.symm)]
      show (!decide (y < x)) = decide (x < y)
      by_cases h2 : x < y
      · have : ¬ y < x := by omega
        simp [h2, this]
      · have : y < x := by omega
        simp [h2, this]
theorem le_eT (a b : List Int) : PySem.W.dataLe false id (eT a) (eT b) = lLe a b := by
  show (!PySem.W.dataLt (eT b) (eT a)) = _
  have h := PySem.W.lexAll_map b a
  unfold eT
  rw [PySem.W.dataLt_tuple, ← lLe_lt]
  congr 1
theorem lLe_total : ∀ a b : List Int, (lLe a b || lLe b a) = true
  | [], _ => by simp [lLe]
  | _ :: _, [] => by simp [lLe]
  | x :: a, y :: b => by
    simp only [lLe]
    by_cases h : x = y
    · rw [if_pos h, if_pos h.symm]; exact lLe_total a b
    · rw [if_neg h, if_neg (fun e => h e.symm)]
      by_cases h2 : x < y
      · simp [h2]
      · have : y < x := by omega
        simp [this]
theorem lLe_anti : ∀ a b : List Int, lLe a b = true → lLe b a = true → a = b
  | [], [], _, _ => rfl
  | [], _ :: _, _, h => by simp [lLe] at h
  | _ :: _, [], h, _ => by simp [lLe] at h
  | x :: a, y :: b, h1, h2 => by
    simp only [lLe] at h1 h2
    by_cases h : x = y
    · rw [if_pos h] at h1; rw [if_pos h.symm] at h2
      rw [h, lLe_anti a b h1 h2]
    · rw [if_neg h, decide_eq_true_eq] at h1; rw [if_neg (fun e => h e.symm), decide_eq_true_eq] at h2; omega
theorem lLe_trans : ∀ a b c : List Int, lLe a b = true → lLe b c = true → lLe a c = true
  | [], _, _, _, _ => by simp [lLe]
  | _ :: _, [], _, h, _ => by simp [lLe] at h
  | _ :: _, _ :: _, [], _, h => by simp [lLe] at h
  | x :: a, y :: b, z :: c, h1, h2 => by
    simp only [lLe] at h1 h2 ⊢
    by_cases e1 : x = y
    · rw [if_pos e1] at h1
      by_cases e2 : y = z
      · rw [if_pos e2] at h2; rw [if_pos (e1.trans e2)]; exact lLe_trans a b c h1 h2
      · rw [if_neg e2] at h2; rw [if_neg (by omega)]; rw [decide_eq_true_eq] at h2 ⊢; omega
    · rw [if_neg e1, decide_eq_true_eq] at h1
      by_cases e2 : y = z
      · rw [if_neg (by omega), decide_eq_true_eq]; omega
      · rw [if_neg e2, decide_eq_true_eq] at h2
        rw [if_neg (by omega), decide_eq_true_eq]; omega
def srtS (l : List (List Int)) : List (List Int) := l.mergeSort lLe
theorem srt_filter (p : List Int → Bool) (l : List (List Int)) : srtS (l.filter p) = (srtS l).filter p := by
  unfold srtS
  refine List.Perm.eq_of_pairwise (le := fun a b => lLe a b = true) (fun a b _ _ => lLe_anti a b) (List.pairwise_mergeSort lLe_trans lLe_total _) ((List.pairwise_mergeSort lLe_trans lLe_total _).filter _) ?_
  exact (List.mergeSort_perm _ _).trans ((List.mergeSort_perm l lLe).symm.filter _)
theorem mem_srt {l : List (List Int)} {P : List Int} : P ∈ srtS l ↔ P ∈ l := (List.mergeSort_perm l lLe).mem_iff
/-- what sorted can take: no empty tuple, or one at the head -/
def hdOk (l : List (List Int)) : Prop := (∀ P ∈ l, P ≠ []) ∨ ∃ r, l = [] :: r
theorem sort_eT {l : List (List Int)} (hd : hdOk l) : biD .sorted [.list (l.map eT)] = some (.nw (.l ((srtS l).map eT))) := by
  have h1 : alikeB (l.map eT) = true := by
    unfold alikeB
    simp only [List.all_eq_true, List.mem_map]
    rintro _ ⟨a, _, rfl⟩ _ ⟨b, _, rfl⟩
    unfold eT
    simp [PySem.W.alike, alike_ints]
  have h2 : sortB (l.map eT) = true := by
    unfold sortB
    rw [Bool.or_eq_true, Bool.or_eq_true]
    rcases hd with hd | ⟨r, rfl⟩
    · refine .inl ?_
      simp only [List.all_eq_true, List.mem_map]
      rintro _ ⟨a, ha, rfl⟩
      cases a with
      | nil => exact absurd rfl (hd _ ha)
      | cons _ _ => rfl
    · refine .inr (.inr ?_)
      show ((r.map eT).all fun d => match d with | .tuple _ => true | _ => false) = true
      simp only [List.all_eq_true, List.mem_map]
      rintro _ ⟨a, ha, rfl⟩
      rfl
  have h3 : PyData.depth (.list (l.map eT)) ≤ 60 := by
    have := depth_eT l
    rw [PyData.depth]; omega
  show (if (alikeB (l.map eT) && (sortB (l.map eT) && decide (PyData.depth (.list (l.map eT)) ≤ 60))) = true then some (R.nw (.l (sortD (l.map eT)))) else none) = _
  rw [h1, h2, decide_eq_true h3, show (true && (true && true)) = true from rfl, if_pos rfl]
  unfold sortD srtS
  rw [List.map_mergeSort (r := lLe) (s := PySem.W.dataLe false id) (f := eT) fun a _ b _ => (le_eT a b).symm]
theorem leP_eq (a b : List Int) : leP a b = if a.length = b.length then lLe a b else decide (a.length < b.length) := by
  show (!PySem.W.dataLt (eP b) (eP a)) = _
  have h := PySem.W.DatumOrd.lt_eq ((b.length : Int), (⟨b⟩ : PySem.W.Tup Int)) ((a.length : Int), (⟨a⟩ : PySem.W.Tup Int))
  have e : ∀ p : List Int, PySem.W.Datum.toD ((p.length : Int), (⟨p⟩ : PySem.W.Tup Int)) = eP p := fun _ => rfl
  rw [e, e] at h
  rw [h]
  show (!(if (b.length : Int) = (a.length : Int) then PySem.W.listLt b a else decide ((b.length : Int) < (a.length : Int)))) = _
  by_cases q : a.length = b.length
  · rw [if_pos q, if_pos (by omega), lLe_lt]
  · rw [if_neg q, if_neg (by omega)]
    by_cases q2 : a.length < b.length
    · have : ¬ ((b.length : Int) < (a.length : Int)) := by omega
      simp [q2]; omega
    · have : ((b.length : Int) < (a.length : Int)) := by omega
      simp [q2]; omega
theorem leP_total (a b : List Int) : (leP a b || leP b a) = true := by
  rw [leP_eq, leP_eq]
  by_cases q : a.length = b.length
  · rw [if_pos q, if_pos q.symm]; exact lLe_total a b
  · rw [if_neg q, if_neg (fun e => q e.symm)]
    simp; omega
theorem leP_trans (a b c : List Int) (h1 : leP a b = true) (h2 : leP b c = true) : leP a c = true := by
  rw [leP_eq] at h1 h2 ⊢
  by_cases q1 : a.length = b.length
  · rw [if_pos q1] at h1
    by_cases q2 : b.length = c.length
    · rw [if_pos q2] at h2; rw [if_pos (q1.trans q2)]; exact lLe_trans a b c h1 h2
    · rw [if_neg q2, decide_eq_true_eq] at h2; rw [if_neg (by omega), decide_eq_true_eq]; omega
  · rw [if_neg q1, decide_eq_true_eq] at h1
    by_cases q2 : b.length = c.length
    · rw [if_neg (by omega), decide_eq_true_eq]; omega
    · rw [if_neg q2, decide_eq_true_eq] at h2; rw [if_neg (by omega), decide_eq_true_eq]; omega
theorem subsF_hd (items : List Int) : ∃ r, subsF items = [] :: r := by
  have hs : (subsF items).Pairwise fun a b => leP a b = true := List.pairwise_mergeSort leP_trans leP_total _
  have hm : [] ∈ subsF items := mem_subsF.mpr (List.nil_sublist _)
  cases q : subsF items with
  | nil => rw [q] at hm; cases hm
  | cons h r =>
    rw [q] at hs hm
    rcases List.mem_cons.mp hm with e | hr
    · exact ⟨r, by rw [e]⟩
    · have := (List.pairwise_cons.mp hs).1 [] hr
      rw [leP_eq] at this
      cases h with
      | nil => exact ⟨r, rfl⟩
      | cons x h => simp at this
theorem subsF_ok (items : List Int) (p : List Int → Bool) : hdOk ((subsF items).filter p) := by
  obtain ⟨r, e⟩ := subsF_hd items
  rw [e, List.filter_cons]
  by_cases h : p [] = true
  · rw [if_pos h]; exact .inr ⟨_, rfl⟩
  · rw [if_neg h]
    refine .inl fun P hP e => ?_
    rw [List.mem_filter, e] at hP
    exact h hP.2
theorem srtR_l {i : Nat} {xs : List D} {f : Bool} {ρ : En} (h : ρ[i]? = some (.ow f (.l xs))) : srtR (.sl i) ρ = opt (biD .sorted [.list xs]) ρ := by
  unfold srtR; rw [vwC_sl, h]; simp [h]
theorem srtR_nl {xs : List D} {ρ : En} : srtR (.nw (.l xs)) ρ = opt (biD .sorted [.list xs]) ρ := by
  unfold srtR; simp
theorem eqv_eT (a b : List Int) : PyData.eqv (eT a) (eT b) = decide (a = b) := by
  unfold eT; rw [PyData.eqv, eqv_intsD]
theorem in_sets (S : List Int) (l : List (List Int)) : cmpD .notIn (eT S) (.list (l.map eT)) = some (!decide (S ∈ l)) := by
  show (if (isFlat (eT S) && (l.map eT).all isFlat) = true then some (!(l.map eT).any fun z => PyData.eqv z (eT S)) else if (SeqAt.shaped (eT S) && SeqAt.shaped (.list (l.map eT))) = true then some (!(l.map eT).any fun z => PyData.eqv z (eT S)) else none) = _
  rw [show isFlat (eT S) = false from rfl, Bool.false_and, if_neg Bool.false_ne_true, shp_eT, shp_sets, show (true && true) = true from rfl, if_pos rfl]
  congr 2
  rw [Bool.eq_iff_iff]
  simp [eqv_eT]
theorem eqv_rows2 : ∀ l m : List Rw, PyData.eqvAll (l.map eR) (m.map eR) = decide (l = m)
  | [], [] => by simp [PyData.eqvAll]
  | [], _ :: _ => by simp [PyData.eqvAll]
  | _ :: _, [] => by simp [PyData.eqvAll]
  | a :: l, b :: m => by
    have : PyData.eqv (eR a) (eR b) = decide (a = b) := by
      obtain ⟨a1, a2, a3⟩ := a
      obtain ⟨b1, b2, b3⟩ := b
      unfold eR
      simp only [PyData.eqv, PyData.eqvAll]
      rw [Bool.eq_iff_iff]; simp
    rw [List.map_cons, List.map_cons, PyData.eqvAll, eqv_rows2 l m, this]
    rw [Bool.eq_iff_iff]; simp
instance : DecidableEq Lay := fun a b => by
  cases a; cases b; simp only [Lay.mk.injEq]; exact inferInstance
theorem eq_eL (A B : Lay) : cmpD .eq (eL A) (eL B) = some (decide (A = B)) := by
  show (if (SeqAt.shaped (eL A) && SeqAt.shaped (eL B)) = true then some (PyData.eqv (eL A) (eL B)) else none) = _
  rw [shp_eL, shp_eL, show (true && true) = true from rfl, if_pos rfl]
  congr 1
  unfold eL
  simp only [PyData.eqv, PyData.eqvAll, eqv_rows2]
  rw [Bool.eq_iff_iff]
  cases A; cases B
  simp [Lay.mk.injEq, PyData.eqvAll, PyData.eqv, eqv_rows2]
theorem asc_ext {a b : List Int} (ha : a.Pairwise fun x y => x < y) (hb : b.Pairwise fun x y => x < y) (h : ∀ x, x ∈ a ↔ x ∈ b) : a = b := by
  refine List.Perm.eq_of_pairwise (le := fun x y : Int => x < y) (fun x y _ _ p q => by omega) ha hb ?_
  exact (List.perm_ext_iff_of_nodup (ha.imp fun h => by omega) (hb.imp fun h => by omega)).mpr h
theorem red_len {c : Int} {S : List Int} (h : 0 ≤ c) (hS : VS c S) : ((leftOf S c).length : Int) - 1 = c - S.length := by
  have e1 : (rngI 0 (c + 1)).filter (fun p => decide (p ∈ S)) = S := by
    refine asc_ext ((rngI_asc _ _).filter _) hS.srt fun x => ?_
    rw [List.mem_filter, decide_eq_true_eq, mem_rngI]
    constructor
    · exact fun h => h.2
    · exact fun hx => ⟨by have := hS.mem x hx; omega, hx⟩
  have e2 := List.length_eq_countP_add_countP (fun p => decide (p ∈ S)) (l := rngI 0 (c + 1))
  rw [List.countP_eq_length_filter, List.countP_eq_length_filter, e1] at e2
  have e3 : (rngI 0 (c + 1)).length = (c + 1).toNat := rng_len (by omega)
  have e4 : (rngI 0 (c + 1)).filter (fun p => decide (¬ decide (p ∈ S) = true)) = leftOf S c := by
    unfold leftOf
    congr 1
    funext p
    simp
  rw [e4] at e2
  omega
end Tx

namespace Tx
open PySem PySem.Spec L2 Sn Mx
theorem rng_split {a b c : Int} (h1 : a ≤ b) (h2 : b ≤ c) : rngI a c = rngI a b ++ rngI b c := by
  refine asc_ext (rngI_asc _ _) ?_ fun x => ?_
  · rw [List.pairwise_append]
    exact ⟨rngI_asc _ _, rngI_asc _ _, fun x hx y hy => by rw [mem_rngI] at hx hy; omega⟩
  · rw [List.mem_append, mem_rngI, mem_rngI, mem_rngI]; omega
theorem rng_length (a b : Int) : (rngI a b).length = (b - a).toNat := by unfold rngI; rw [List.length_map, List.length_range]
theorem rng_one (a : Int) : rngI a (a + 1) = [a] := asc_ext (rngI_asc _ _) (by simp) fun x => by rw [mem_rngI, List.mem_singleton]; omega
theorem rng_cons {a b : Int} (h : a < b) : rngI a b = a :: rngI (a + 1) b := by
  rw [rng_split (a := a) (b := a + 1) (c := b) (by omega) (by omega), rng_one]; rfl
theorem rng_snoc {a b : Int} (h : a ≤ b) : rngI a (b + 1) = rngI a b ++ [b] := by
  rw [rng_split (a := a) (b := b) (c := b + 1) h (by omega), rng_one]
theorem cut_rng {n f l : Int} (h0 : 0 ≤ f) (h1 : f ≤ l) (h2 : l ≤ n) (h : Int → D) : cutD ((rngI 0 n).map h) (some f) (some l) = (rngI f l).map h := by
  have e : rngI 0 n = rngI 0 f ++ (rngI f l ++ rngI l n) := by rw [← rng_split h1 h2, ← rng_split h0 (by omega)]
  have len : ((rngI 0 n).map h).length = n.toNat := by rw [List.length_map, rng_length]; congr 1; omega
  unfold cutD HT.sIx
  simp only []
  rw [if_neg (by omega), if_neg (by omega), len, e, List.map_append, List.map_append]
  have l1 : ((rngI 0 f).map h).length = f.toNat := by rw [List.length_map, rng_length]; congr 1; omega
  have l2 : ((rngI f l).map h).length = l.toNat - f.toNat := by rw [List.length_map, rng_length]; omega
  rw [Nat.min_eq_left (by omega), Nat.min_eq_left (by omega), List.drop_append_of_le_length (by omega), List.drop_of_length_le (by omega), List.nil_append, List.take_append_of_le_length (by omega), List.take_of_length_le (by omega)]
theorem ix_rngL {n p : Int} (h0 : 0 ≤ p) (h1 : p < n) (h : Int → D) : ixD (.list ((rngI 0 n).map h)) (.int p) = some (h p) := by
  obtain ⟨k, rfl⟩ : ∃ k : Nat, p = k := ⟨p.toNat, by omega⟩
  have hl : k < ((rngI 0 n).map h).length := by rw [List.length_map, rng_length]; omega
  show atI ((rngI 0 n).map h) (k : Int) = _
  rw [atI_nat _ _ hl, List.getElem_map]
  congr 2
  unfold rngI
  simp
theorem ix_rngT {n p : Int} (h0 : 0 ≤ p) (h1 : p < n) (h : Int → D) : ixD (.tuple ((rngI 0 n).map h)) (.int p) = some (h p) := ix_rngL h0 h1 h
/-- a report: c snapshots, g the pairs -/
def eRep (c : Int) (g : Int → K2) : D := .tuple ((rngI 0 (c + 1)).map fun p => eK (g p))
structure RepOk (c : Int) (g : Int → K2) : Prop where
  c0 : 0 ≤ c
  c1 : c ≤ 10
  am : ∀ p, 0 ≤ p → p ≤ c → isA (g p).1 ∧ isA (g p).2
  hd : (g 0).1 = (g 0).2
  ch : ∀ p, 0 ≤ p → p < c → 0 ≤ (g (p + 1)).1 - (g (p + 1)).2 ∧ (g (p + 1)).1 - (g (p + 1)).2 ≤ (g p).1
/-- what goes on -/
def crs (c : Int) (g : Int → K2) (p : Int) : Int := if p < c then (g (p + 1)).1 - (g (p + 1)).2 else 0
def ins (c : Int) (g : Int → K2) (f l : Int) : Int := ((rngI f (l + 1)).map fun p => (g p).2).sum - crs c g l
def ent (g : Int → K2) (f : Int) : Int := (g f).1 - (g f).2
def ends' (c : Int) (g : Int → K2) (f l : Int) : Int := ((rngI f (l + 1)).map fun p => (g p).1 - crs c g p).sum
def loP (c : Int) (g : Int → K2) (f l : Int) : Int := if ent g f - ends' c g f l > 0 then ent g f - ends' c g f l else 0
def hiP (c : Int) (g : Int → K2) (f l : Int) : Int := ((rngI f (l + 1)).map (crs c g)).foldl minI (ent g f)
theorem pair_ok (n : Nat) {q : K2} (h1 : isA q.1) (h2 : isA q.2) : sem T (n+2) 22 [eK q] = .ret (.v (.bool true)) [] := by
  obtain ⟨a, b⟩ := q
  have i1 := is_integer_any n (d := .int a) 0 1000000000000000 rfl
  have i2 := is_integer_any n (d := .int b) 0 1000000000000000 rfl
  rw [isI_int, show inB a 0 1000000000000000 = true by unfold isA at h1; unfold inB; simp; omega] at i1
  rw [isI_int, show inB b 0 1000000000000000 = true by unfold isA at h2; unfold inB; simp; omega] at i2
  rw [sem_at (fd := a_is_pair) rfl]
  show outF a_is_pair (evS (sem T (n+1)) a_is_pair.body [.v (.tuple [.int a, .int b]), .un]) = _
  unfold a_is_pair
  dsimp only
  have st : evE (sem T (n+1)) (.lc (.call 0 (.cons (.var 1) (.cons (.lit (.int 0)) (.cons (.lit (.int 1000000000000000)) .nil)))) (.nm 1) (.seq (.var 0)) (.lit (.bool true)) [1]) [.v (.tuple [.int a, .int b]), .un] =
      .ok (.nw (.l ([true, true].map fun b => .bool b))) [.v (.tuple [.int a, .int b]), .un] := by
    rw [lc_all [a, b] .int (fun _ => .bool true)]
    · rfl
    · simp
    · simp [freeE_cons]
    · intro x hx
      simp only [List.mem_cons, List.not_mem_nil, or_false] at hx
      refine ⟨_, by simp [asg, wipeE, setS_eq]; rfl, by simp [wipeE], ?_⟩
      rcases hx with rfl | rfl
      · simp [i1]
      · simp [i2]
  have al := m_all (fun b : Bool => b) [true, true]
  simp [st]
  simp at al
  simp [al]
theorem crs_ok (n : Nat) (c : Int) (g : Int → K2) (h0 : 0 ≤ c) (h1 : c ≤ 10) : sem T (n+1) 26 [eRep c g] = .ret (.nw (.l ((rngI 0 (c + 1)).map fun p => .int (crs c g p)))) [] := by
  rw [sem_at (fd := a_crossing) rfl]
  show outF a_crossing (evS (sem T n) a_crossing.body [.v (eRep c g), .un, .un]) = _
  unfold a_crossing
  dsimp only
  have st : evE (sem T n) (.lc (.bin .sub (.var 1) (.var 2)) (.tp (.cs (.nm 1) (.cs (.nm 2) .nl))) (.seq (.slc (.var 0) (.lit (.int 1)) (.lit .none))) (.lit (.bool true)) [1, 2]) [.v (eRep c g), .un, .un] =
      .ok (.nw (.l ((rngI 0 c).map fun p => .int (crs c g p)))) [.v (eRep c g), .un, .un] := by
    rw [lc_all (rngI 0 c) (fun p => eK (g (p + 1))) (fun p => .int (crs c g p))]
    · have e : rngI 0 (c + 1) = 0 :: rngI 1 (c + 1) := rng_cons (by omega)
      have e2 : rngI 1 (c + 1) = (rngI 0 c).map fun p => p + 1 := by
        unfold rngI
        rw [List.map_map, show (c + 1 - 1).toNat = (c - 0).toNat by omega]
        refine List.map_congr_left fun i _ => ?_
        simp only [Function.comp_def]; omega
      simp [eRep, slcI, cut_1, e, e2, Function.comp_def]
    · simp [freeE_cons]
    · intro p hp
      rw [mem_rngI] at hp
      have : crs c g p = (g (p + 1)).1 - (g (p + 1)).2 := by unfold crs; rw [if_pos (by omega)]
      exact ⟨_, by simp [asg, eK, wipeE, setS_eq]; rfl, by simp [wipeE], by simp [this]⟩
  have ad : binD .add (.list ((rngI 0 c).map fun p => .int (crs c g p))) (.list [.int 0]) = some (.nw (.l ((rngI 0 (c + 1)).map fun p => .int (crs c g p)))) := by
    show (if ((rngI 0 c).map fun p => PyData.int (crs c g p)).length + [PyData.int 0].length ≤ sizeLine then some (R.nw (.l (((rngI 0 c).map fun p => PyData.int (crs c g p)) ++ [.int 0]))) else none) = _
    rw [if_pos (by rw [List.length_map, rng_length]; simp; unfold sizeLine; omega), rng_snoc h0, List.map_append]
    have : crs c g c = 0 := by unfold crs; rw [if_neg (by omega)]
    simp [this]
  simp [st, ad, sizeLine]
theorem ent_ok (n : Nat) {c f : Int} (g : Int → K2) (h0 : 0 ≤ f) (h1 : f ≤ c) : sem T (n+1) 27 [eRep c g, .int f] = .ret (.v (.int (ent g f))) [] := by
  have e : ixD (eRep c g) (.int f) = some (eK (g f)) := ix_rngT h0 (by omega) _
  have e0 : ixD (eK (g f)) (.int 0) = some (.int (g f).1) := by unfold eK; simp
  have e1 : ixD (eK (g f)) (.int 1) = some (.int (g f).2) := by unfold eK; simp
  rw [sem_at (fd := a_entering) rfl]
  simp [runF, startE, a_entering, e, e0, e1, ent]
theorem run_ok (n : Nat) {c f l : Int} (g : Int → K2) (h0 : 0 ≤ f) (h1 : f ≤ l) (h2 : l < c) : sem T (n+2) 28 [eRep c g, .int f, .int l] = .ret (.v .none) [] := by
  have ln : biD .len [eRep c g] = some (.v (.int (c + 1))) := by
    show some (R.v (.int (((rngI 0 (c + 1)).map fun p => eK (g p)).length : Nat))) = _
    rw [List.length_map, rng_length]; congr 3; omega
  have i1 := is_integer_any n (d := .int l) 0 (c + 1 - 2) rfl
  have i2 := is_integer_any n (d := .int f) 0 l rfl
  rw [isI_int, show inB l 0 (c + 1 - 2) = true by unfold inB; simp; omega] at i1
  rw [isI_int, show inB f 0 l = true by unfold inB; simp; omega] at i2
  rw [sem_at (fd := a_require_run) rfl]
  simp [runF, startE, a_require_run, ln, i1, i2]
theorem ins_ok (n : Nat) {c f l : Int} (g : Int → K2) (hc : c ≤ 10) (h0 : 0 ≤ f) (h1 : f ≤ l) (h2 : l < c) : sem T (n+2) 29 [eRep c g, .int f, .int l] = .ret (.v (.int (ins c g f l))) [] := by
  have cr := crs_ok n c g (by omega) hc
  have ix := ix_rngL (n := c + 1) (p := l) (by omega) (by omega) fun p => .int (crs c g p)
  rw [sem_at (fd := a_inside) rfl]
  show outF a_inside (evS (sem T (n+1)) a_inside.body [.v (eRep c g), .v (.int f), .v (.int l), .un, .un]) = _
  unfold a_inside
  dsimp only
  have st : evE (sem T (n+1)) (.lc (.var 4) (.tp (.cs (.nm 3) (.cs (.nm 4) .nl))) (.seq (.slc (.var 0) (.var 1) (.bin .add (.var 2) (.lit (.int 1))))) (.lit (.bool true)) [3, 4]) [.v (eRep c g), .v (.int f), .v (.int l), .un, .un] =
      .ok (.nw (.l ((rngI f (l + 1)).map fun p => .int (g p).2))) [.v (eRep c g), .v (.int f), .v (.int l), .un, .un] := by
    rw [lc_all (rngI f (l + 1)) (fun p => eK (g p)) (fun p => .int (g p).2)]
    · have := cut_rng (n := c + 1) (f := f) (l := l + 1) h0 (by omega) (by omega) fun p => eK (g p)
      simp [eRep, slcI, this]
    · simp [freeE_cons]
    · intro p hp
      exact ⟨_, by simp [asg, eK, wipeE, setS_eq]; rfl, by simp [wipeE], by simp⟩
  have sm := m_sum (fun p => (g p).2) (rngI f (l + 1))
  simp [st, sm, cr, ix, ins]
end Tx

namespace Tx
open PySem PySem.Spec L2 Sn Mx
theorem isrep_ok (n : Nat) {c : Int} {g : Int → K2} (h : RepOk c g) : sem T (n+3) 23 [eRep c g] = .ret (.v (.bool true)) [] := by
  have c0 := h.c0
  have c1 := h.c1
  have ln : biD .len [eRep c g] = some (.v (.int (c + 1))) := by
    show some (R.v (.int (((rngI 0 (c + 1)).map fun p => eK (g p)).length : Nat))) = _
    rw [List.length_map, rng_length]; congr 3; omega
  have it : biD .isTup [eRep c g] = some (.v (.bool true)) := rfl
  rw [sem_at (fd := a_is_report) rfl]
  show outF a_is_report (evS (sem T (n+2)) a_is_report.body [.v (eRep c g), .un, .un, .un]) = _
  unfold a_is_report
  dsimp only
  have q1 : (1 : Int) ≤ c + 1 := by omega
  have q2 : c + 1 ≤ 11 := by omega
  rw [seq_nx (ρ' := [.v (eRep c g), .un, .un, .un]) (by simp [ln, it, q1, q2])]
  have st : evE (sem T (n+2)) (.lc (.call 22 (.cons (.var 3) .nil)) (.nm 3) (.seq (.var 0)) (.lit (.bool true)) [3]) [.v (eRep c g), .un, .un, .un] =
      .ok (.nw (.l ((rngI 0 (c + 1)).map fun p => .bool ((fun _ : Int => true) p)))) [.v (eRep c g), .un, .un, .un] := by
    rw [lc_all (rngI 0 (c + 1)) (fun p => eK (g p)) (fun p => .bool ((fun _ : Int => true) p))]
    · simp [eRep]
    · simp [freeE_cons]
    · intro p hp
      rw [mem_rngI] at hp
      obtain ⟨m1, m2⟩ := h.am p (by omega) (by omega)
      exact ⟨_, by simp [asg, wipeE, setS_eq]; rfl, by simp [wipeE], by simp [pair_ok n m1 m2]⟩
  have al := m_all (fun _ : Int => true) (rngI 0 (c + 1))
  have at' : ((rngI 0 (c + 1)).all fun _ => true) = true := by simp
  rw [at'] at al
  have e0 : ixD (eRep c g) (.int 0) = some (eK (g 0)) := ix_rngT (by omega) (by omega) _
  have k0 : ixD (eK (g 0)) (.int 0) = some (.int (g 0).1) := by unfold eK; simp
  have k1 : ixD (eK (g 0)) (.int 1) = some (.int (g 0).2) := by unfold eK; simp
  have hd := h.hd
  rw [seq_nx (ρ' := [.v (eRep c g), .un, .un, .un]) (by simp only [s_ite, e_or, evOr, e_not, e_all, st, bnd_ok, opr_nw, vw_v, opt_some, al]; simp [e0, k0, k1, hd])]
  have st2 : evE (sem T (n+2)) (.lc (.cmp (.lit (.int 0)) (.more .le (.bin .sub (.ix (.var 2) (.lit (.int 0))) (.ix (.var 2) (.lit (.int 1)))) (.one .le (.ix (.var 1) (.lit (.int 0)))))) (.tp (.cs (.nm 1) (.cs (.nm 2) .nl))) (.zip (.var 0) (.slc (.var 0) (.lit (.int 1)) (.lit .none))) (.lit (.bool true)) [1, 2]) [.v (eRep c g), .un, .un, .un] =
      .ok (.nw (.l ((rngI 0 c).map fun p => .bool ((fun _ : Int => true) p)))) [.v (eRep c g), .un, .un, .un] := by
    rw [lc_all (rngI 0 c) (fun p => .tuple [eK (g p), eK (g (p + 1))]) (fun p => .bool ((fun _ : Int => true) p))]
    · have e : rngI 0 (c + 1) = 0 :: rngI 1 (c + 1) := rng_cons (by omega)
      have e2 : rngI 1 (c + 1) = (rngI 0 c).map fun p => p + 1 := by
        unfold rngI
        rw [List.map_map, show (c + 1 - 1).toNat = (c - 0).toNat by omega]
        refine List.map_congr_left fun i _ => ?_
        simp only [Function.comp_def]; omega
      have z : ∀ (l m : List Int) (u w : Int → D) (x : Int), zipD ((l ++ [x]).map u) (l.map w) = l.map fun p => .tuple [u p, w p] := by
        intro l
        induction l with
        | nil => intro m u w x; rfl
        | cons a l ih => intro m u w x; rw [List.cons_append, List.map_cons, List.map_cons, zipD, ih m u w x]; rfl
      have zz : zipD ((rngI 0 (c + 1)).map fun p => eK (g p)) ((rngI 1 (c + 1)).map fun p => eK (g p)) = (rngI 0 c).map fun p => .tuple [eK (g p), eK (g (p + 1))] := by
        rw [rng_snoc c0, e2, List.map_map]; exact z (rngI 0 c) [] (fun p => eK (g p)) _ c
      have cu : cutD ((rngI 0 (c + 1)).map fun p => eK (g p)) (some 1) none = (rngI 1 (c + 1)).map fun p => eK (g p) := by rw [cut_1, e]; rfl
      simp [eRep, slcI, cu, zz]
    · simp [freeE_cons]
    · intro p hp
      rw [mem_rngI] at hp
      obtain ⟨m1, m2⟩ := h.ch p (by omega) (by omega)
      have m3 : (g (p + 1)).2 ≤ (g (p + 1)).1 := by omega
      exact ⟨_, by simp [asg, eK, wipeE, setS_eq]; rfl, by simp [wipeE], by simp [decide_eq_true m1, decide_eq_true m2, m3, m2]⟩
  have al2 := m_all (fun _ : Int => true) (rngI 0 c)
  have at2 : ((rngI 0 c).all fun _ => true) = true := by simp
  rw [at2] at al2
  simp only [s_seq, s_ret, e_all, st2, bnd_ok, opr_nw, vw_v, opt_some, al2]
  simp
theorem rqrep_ok (n : Nat) {c : Int} {g : Int → K2} (h : RepOk c g) : sem T (n+4) 24 [eRep c g] = .ret (.v .none) [] := by
  rw [sem_at (fd := a_require_report) rfl]
  simp [runF, startE, a_require_report, isrep_ok n h]
theorem pass_ok (n : Nat) {c f l : Int} (g : Int → K2) (hc : c ≤ 10) (h0 : 0 ≤ f) (h1 : f ≤ l) (h2 : l < c) : sem T (n+2) 30 [eRep c g, .int f, .int l] = .ret (.v (.tuple [.int (loP c g f l), .int (hiP c g f l)])) [] := by
  have cr := crs_ok n c g (by omega) hc
  have en := ent_ok n g h0 (show f ≤ c by omega)
  rw [sem_at (fd := a_passing_range) rfl]
  show outF a_passing_range (evS (sem T (n+1)) a_passing_range.body [.v (eRep c g), .v (.int f), .v (.int l), .un, .un, .un, .un]) = _
  unfold a_passing_range
  dsimp only
  rw [seq_nx (ρ' := [.v (eRep c g), .v (.int f), .v (.int l), .un, .ow false (.l ((rngI 0 (c + 1)).map fun p => .int (crs c g p))), .v (.int (ent g f)), .un]) (by simp [cr, en, setS_eq])]
  have rk := rngOk_k (a := f) (b := l + 1) (by omega) (by omega) (by omega) (by omega)
  have st : evE (sem T (n+1)) (.lc (.bin .sub (.ix (.ix (.var 0) (.var 6)) (.lit (.int 0))) (.ix (.var 4) (.var 6))) (.nm 6) (.rng (.var 1) (.bin .add (.var 2) (.lit (.int 1)))) (.lit (.bool true)) [6])
      [.v (eRep c g), .v (.int f), .v (.int l), .un, .ow false (.l ((rngI 0 (c + 1)).map fun p => .int (crs c g p))), .v (.int (ent g f)), .un] =
      .ok (.nw (.l ((rngI f (l + 1)).map fun p => .int ((g p).1 - crs c g p)))) [.v (eRep c g), .v (.int f), .v (.int l), .un, .ow false (.l ((rngI 0 (c + 1)).map fun p => .int (crs c g p))), .v (.int (ent g f)), .un] := by
    rw [lc_all (rngI f (l + 1)) .int (fun p => .int ((g p).1 - crs c g p))]
    · simp [rk, rngD_eq]
    · simp [freeE_cons]
    · intro p hp
      rw [mem_rngI] at hp
      have e : ixD (eRep c g) (.int p) = some (eK (g p)) := ix_rngT (by omega) (by omega) _
      have e0 : ixD (eK (g p)) (.int 0) = some (.int (g p).1) := by unfold eK; simp
      have ix := ix_rngL (n := c + 1) (p := p) (by omega) (by omega) fun p => .int (crs c g p)
      exact ⟨_, by simp [asg, wipeE, setS_eq]; rfl, by simp [wipeE], by simp [e, e0, ix]⟩
  have sm := m_sum (fun p => (g p).1 - crs c g p) (rngI f (l + 1))
  rw [seq_nx (ρ' := [.v (eRep c g), .v (.int f), .v (.int l), .v (.int (ends' c g f l)), .ow false (.l ((rngI 0 (c + 1)).map fun p => .int (crs c g p))), .v (.int (ent g f)), .un]) (by simp only [s_set, e_sum, st, bnd_ok, opr_nw, vw_v, opt_some, sm]; simp [setS_eq, ends'])]
  have cu := cut_rng (n := c + 1) (f := f) (l := l + 1) h0 (by omega) (by omega) fun p => .int (crs c g p)
  have ml : ((rngI f (l + 1)).map fun p => PyData.int (crs c g p)) = ((rngI f (l + 1)).map (crs c g)).map .int := by rw [List.map_map]; rfl
  have ad : binD .add (.list [.int (ent g f)]) (.list ((rngI f (l + 1)).map fun p => .int (crs c g p))) = some (.nw (.l ((ent g f :: (rngI f (l + 1)).map (crs c g)).map .int))) := by
    show (if [PyData.int (ent g f)].length + ((rngI f (l + 1)).map fun p => PyData.int (crs c g p)).length ≤ sizeLine then some (R.nw (.l ([.int (ent g f)] ++ ((rngI f (l + 1)).map fun p => PyData.int (crs c g p))))) else none) = _
    rw [if_pos (by rw [List.length_map, rng_length]; simp; unfold sizeLine; omega), ml]; rfl
  have mn : biD .min1 [.list ((ent g f :: (rngI f (l + 1)).map (crs c g)).map .int)] = some (.v (.int (hiP c g f l))) := by
    have := m_ints (fun i : Int => i) (ent g f :: (rngI f (l + 1)).map (crs c g))
    show (intsD _).bind _ = _
    rw [this]
    simp [foldI, hiP]
    rfl
  have mx : biD .max2 [.int 0, .int (ent g f - ends' c g f l)] = some (.v (.int (loP c g f l))) := rfl
  have b1 : binD .sub (.int (ent g f)) (.int (ends' c g f l)) = some (.v (.int (ent g f - ends' c g f l))) := rfl
  simp [slcI, cu, ad, mx, sizeLine]
  simp at mn
  simp [mn]
theorem fr_ok (n : Nat) {c f l : Int} {g : Int → K2} (h : RepOk c g) (h0 : 0 ≤ f) (h1 : f ≤ l) (h2 : l < c) : sem T (n+5) 31 [eRep c g, .int f, .int l] = .ret (.v (.tuple [.int (ins c g f l + loP c g f l), .int (ins c g f l + hiP c g f l)])) [] := by
  have c1 := h.c1
  rw [sem_at (fd := a_freed_range) rfl]
  show outF a_freed_range (evS (sem T (n+4)) a_freed_range.body [.v (eRep c g), .v (.int f), .v (.int l), .un, .un]) = _
  unfold a_freed_range
  dsimp only
  have r1 := rqrep_ok n h
  have r2 := run_ok (n+2) g h0 h1 h2
  have r3 := pass_ok (n+2) g c1 h0 h1 h2
  have r4 := ins_ok (n+2) g c1 h0 h1 h2
  rw [seq_nx (ρ' := [.v (eRep c g), .v (.int f), .v (.int l), .un, .un]) (by simp [r1]), seq_nx (ρ' := [.v (eRep c g), .v (.int f), .v (.int l), .un, .un]) (by simp [r2]),
    seq_nx (ρ' := [.v (eRep c g), .v (.int f), .v (.int l), .v (.int (loP c g f l)), .v (.int (hiP c g f l))]) (by simp [r3, asg, setS_eq])]
  simp [r4, sizeLine]
/-- what revealed gives -/
def rvl (c : Int) (g : Int → K2) (f l new : Int) : D := if loP c g f l ≤ (g (l + 1)).1 - new ∧ (g (l + 1)).1 - new ≤ hiP c g f l then .int (ins c g f l + ((g (l + 1)).1 - new)) else .none
theorem rvl_ok (n : Nat) {c f l new : Int} {g : Int → K2} (h : RepOk c g) (h0 : 0 ≤ f) (h1 : f ≤ l) (h2 : l < c) (hn : isA new) : sem T (n+5) 122 [eRep c g, .int f, .int l, .int new] = .ret (.v (rvl c g f l new)) [] := by
  have c1 := h.c1
  rw [sem_at (fd := a_revealed) rfl]
  show outF a_revealed (evS (sem T (n+4)) a_revealed.body [.v (eRep c g), .v (.int f), .v (.int l), .v (.int new), .un, .un, .un]) = _
  unfold a_revealed
  dsimp only
  have r1 := rqrep_ok n h
  have r2 := run_ok (n+2) g h0 h1 h2
  have r3 := pass_ok (n+2) g c1 h0 h1 h2
  have r4 := ins_ok (n+2) g c1 h0 h1 h2
  have i1 := is_integer_any (n+3) (d := .int new) 0 1000000000000000 rfl
  rw [isI_int, show inB new 0 1000000000000000 = true by unfold isA at hn; unfold inB; simp; omega] at i1
  have e : ixD (eRep c g) (.int (l + 1)) = some (eK (g (l + 1))) := ix_rngT (by omega) (by omega) _
  have e0 : ixD (eK (g (l + 1))) (.int 0) = some (.int (g (l + 1)).1) := by unfold eK; simp
  rw [seq_nx (ρ' := [.v (eRep c g), .v (.int f), .v (.int l), .v (.int new), .un, .un, .un]) (by simp [r1]), seq_nx (ρ' := [.v (eRep c g), .v (.int f), .v (.int l), .v (.int new), .un, .un, .un]) (by simp [r2]),
    seq_nx (ρ' := [.v (eRep c g), .v (.int f), .v (.int l), .v (.int new), .un, .un, .un]) (by simp [i1]),
    seq_nx (ρ' := [.v (eRep c g), .v (.int f), .v (.int l), .v (.int new), .v (.int ((g (l + 1)).1 - new)), .un, .un]) (by simp [e, e0, setS_eq]),
    seq_nx (ρ' := [.v (eRep c g), .v (.int f), .v (.int l), .v (.int new), .v (.int ((g (l + 1)).1 - new)), .v (.int (loP c g f l)), .v (.int (hiP c g f l))]) (by simp [r3, asg, setS_eq])]
  unfold rvl
  by_cases q1 : loP c g f l ≤ (g (l + 1)).1 - new
  · by_cases q2 : (g (l + 1)).1 - new ≤ hiP c g f l
    · rw [if_pos ⟨q1, q2⟩]; simp [q1, q2, r4]
    · rw [if_neg (fun z => q2 z.2)]; simp [q1, q2]
  · rw [if_neg (fun z => q1 z.1)]; simp [q1]
theorem out25_ok (n : Nat) {c : Int} {g : Int → K2} (h : RepOk c g) (hc : 0 < c) {d : D} (hd : nDict d = true) (hb : isI d 0 1000000000000000 = false) : sem T (n+6) 123 [eRep c g, d] = .ret (.v (.str "number")) [] := by
  have f : sem T (n+5) 122 [eRep c g, .int 0, .int 0, d] = .ex "InvalidNumber" := by
    have r1 := rqrep_ok n h
    have r2 := run_ok (n+2) (f := 0) (l := 0) g (by omega) (by omega) hc
    have i1 := is_integer_any (n+3) (d := d) 0 1000000000000000 hd
    rw [hb] at i1
    rw [sem_at (fd := a_revealed) rfl]
    simp [runF, startE, a_revealed, r1, r2, i1]
  rw [sem_at (fd := a__law_outcome_k25) rfl]
  simp [runF, startE, a__law_outcome_k25, f, tryF_ex enm_num]
end Tx

namespace Tx
open PySem PySem.Spec L2 Sn Mx
def heldR (rows : List Rw) (p : Int) : List Rw := rows.filter fun r => decide (r.1 ≤ p) && decide (p ≤ r.2.1)
def hld (rows : List Rw) (p : Int) : Int := tot (heldR rows p)
def nwv (rows : List Rw) (p : Int) : Int := tot ((heldR rows p).filter fun r => decide (r.1 = p))
def gL (L : Lay) (p : Int) : K2 := (hld L.rows p, nwv L.rows p)
theorem sums_ok (n : Nat) (R : List Rw) (p : Int) {a0 a1 s3 : Sl} (h3 : s3 = .ow false (.l (R.map eR))) :
    evE (sem T n) (.tup (.cons (.bi .sum (.cons (.lc (.ix (.var 4) (.lit (.int 2))) (.nm 4) (.seq (.var 3)) (.lit (.bool true)) [4]) .nil)) (.cons (.bi .sum (.cons (.lc (.ix (.var 4) (.lit (.int 2))) (.nm 4) (.seq (.var 3)) (.cmp (.ix (.var 4) (.lit (.int 0))) (.one .eq (.var 2))) [4]) .nil)) .nil))) [a0, a1, .v (.int p), s3, .un] =
      .ok (.v (eK (tot R, tot (R.filter fun r => decide (r.1 = p))))) [a0, a1, .v (.int p), .v (.list (R.map eR)), .un] := by
  subst h3
  have st1 : evE (sem T n) (.lc (.ix (.var 4) (.lit (.int 2))) (.nm 4) (.seq (.var 3)) (.lit (.bool true)) [4]) [a0, a1, .v (.int p), .ow false (.l (R.map eR)), .un] =
      .ok (.nw (.l (R.map fun r => .int r.2.2))) [a0, a1, .v (.int p), .v (.list (R.map eR)), .un] := by
    rw [lc_allE [a0, a1, .v (.int p), .v (.list (R.map eR)), .un] R eR (fun r => .int r.2.2)]
    · simp
    · simp [freeE_cons]
    · intro r hr
      exact ⟨_, by simp [asg, eR, wipeE, setS_eq]; rfl, by simp [wipeE], by simp⟩
  have st2 : evE (sem T n) (.lc (.ix (.var 4) (.lit (.int 2))) (.nm 4) (.seq (.var 3)) (.cmp (.ix (.var 4) (.lit (.int 0))) (.one .eq (.var 2))) [4]) [a0, a1, .v (.int p), .v (.list (R.map eR)), .un] =
      .ok (.nw (.l ((R.filter fun r => decide (r.1 = p)).map fun r => .int r.2.2))) [a0, a1, .v (.int p), .v (.list (R.map eR)), .un] := by
    rw [lc_map R eR (fun r => decide (r.1 = p)) (fun r => .int r.2.2)]
    · simp
    · simp [freeE_cons]
    · intro r hr
      exact ⟨_, by simp [asg, eR, wipeE, setS_eq]; rfl, by simp [wipeE], by simp, fun _ => by simp⟩
  have m1 := m_sum (fun r : Rw => r.2.2) R
  have m2 := m_sum (fun r : Rw => r.2.2) (R.filter fun r => decide (r.1 = p))
  simp [st1, st2, m1, m2, sizeLine, eK, tot]
def I_rep (L : Lay) (rem : List Int) (ρ : En) : Prop := ∃ done s2 s3, ρ = [.v (eL L), .ow false (.l (done.map fun p => eK (gL L p))), s2, s3, .un] ∧ Frs (some s2) = true ∧ Frs (some s3) = true ∧ done ++ rem = rngI 0 (L.c + 1)
theorem rep_fin (L : Lay) : PyData.tuple ((rngI 0 (L.c + 1)).map fun p => eK (gL L p)) = eRep L.c (gL L) := rfl
theorem rep_ok (n : Nat) {L : Lay} (hL : WL L) : sem T (n+5) 25 [eL L] = .ret (.v (eRep L.c (gL L))) [] := by
  have c0 := hL.c0
  have c1 := hL.c1
  have e0 : ixD (eL L) (.int 0) = some (.int L.c) := by simp [eL]
  have e1 : ixD (eL L) (.int 1) = some (.tuple (L.rows.map eR)) := by simp [eL]
  have rk := rngOk_k (a := 0) (b := L.c + 1) (by omega) (by omega) (by omega) (by omega)
  rw [sem_at (fd := a_report_of) rfl]
  show outF a_report_of (evS (sem T (n+4)) a_report_of.body [.v (eL L), .un, .un, .un, .un]) = _
  unfold a_report_of
  dsimp only
  rw [seq_nx (ρ' := [.v (eL L), .un, .un, .un, .un]) (by simp [ok_require_layout n L (lay_ok hL)]), seq_nx (ρ' := [.v (eL L), .ow false (.l []), .un, .un, .un]) (by simp [setS_eq]), s_seq]
  refine for_k (fun x => outF _ x = _) (rngI 0 (L.c + 1)) .int (I_rep L) (by simp [e0, rk, rngD_eq]) ⟨[], .un, .un, rfl, rfl, rfl, rfl⟩ ?_ ?_
  · rintro p rem ρ ⟨done, s2, s3, rfl, h2, h3, hd⟩
    refine ⟨_, by simp [asg, setS_eq, h2] <;> rfl, ?_⟩
    have hs : done.length < sizeLine := by
      have h1 : done.length ≤ (rngI 0 (L.c + 1)).length := by rw [← hd, List.length_append]; omega
      rw [rng_length] at h1
      unfold sizeLine; omega
    have st : evE (sem T (n+4)) (.lc (.var 4) (.nm 4) (.seq (.ix (.var 0) (.lit (.int 1)))) (.cmp (.ix (.var 4) (.lit (.int 0))) (.more .le (.var 2) (.one .le (.ix (.var 4) (.lit (.int 1)))))) [4]) [.v (eL L), .ow false (.l (done.map fun p => eK (gL L p))), .v (.int p), s3, .un] =
        .ok (.nw (.l ((heldR L.rows p).map eR))) [.v (eL L), .ow false (.l (done.map fun p => eK (gL L p))), .v (.int p), s3, .un] := by
      rw [lc_map L.rows eR (fun r => decide (r.1 ≤ p) && decide (p ≤ r.2.1)) eR]
      · rfl
      · simp [e1]
      · simp [freeE_cons]
      · intro r hr
        refine ⟨_, by simp [asg, wipeE, setS_eq]; rfl, by simp [wipeE], ?_, fun _ => by simp⟩
        have k0 : ixD (eR r) (.int 0) = some (.int r.1) := by unfold eR; simp
        have k1 : ixD (eR r) (.int 1) = some (.int r.2.1) := by unfold eR; simp
        by_cases q : r.1 ≤ p <;> simp [k0, k1, q]
    have sm := sums_ok (n+4) (heldR L.rows p) p (a0 := .v (eL L)) (a1 := .ow false (.l (done.map fun p => eK (gL L p)))) rfl
    refine ⟨[.v (eL L), .ow false (.l ((done ++ [p]).map fun p => eK (gL L p))), .v (.int p), .v (.list ((heldR L.rows p).map eR)), .un], ?_, done ++ [p], _, _, rfl, rfl, rfl, by rw [← hd]; simp⟩
    refine go_seq (ρ' := [.v (eL L), .ow false (.l (done.map fun p => eK (gL L p))), .v (.int p), .ow false (.l ((heldR L.rows p).map eR)), .un]) (by rw [s_set, st]; simp [setS_eq, h3]) (go_seq (ρ' := [.v (eL L), .ow false (.l ((done ++ [p]).map fun p => eK (gL L p))), .v (.int p), .v (.list ((heldR L.rows p).map eR)), .un]) ?_ rfl)
    have eg : eK (tot (heldR L.rows p), tot ((heldR L.rows p).filter fun r => decide (r.1 = p))) = eK (gL L p) := rfl
    simp [-e_tup, sm, hs, eg]
  · rintro ρ' ⟨done, s2, s3, rfl, h2, h3, hd⟩
    rw [List.append_nil] at hd
    subst hd
    rw [sqF_nx]
    simp [rep_fin]
theorem lawrep_ok (n : Nat) {L : Lay} (hL : WL L) : sem T (n+1) 46 [eL L] = .ret (.v (eRep L.c (gL L))) [] := by
  have c0 := hL.c0
  have c1 := hL.c1
  have e0 : ixD (eL L) (.int 0) = some (.int L.c) := by simp [eL]
  have e1 : ixD (eL L) (.int 1) = some (.tuple (L.rows.map eR)) := by simp [eL]
  have rk := rngOk_k (a := 0) (b := L.c + 1) (by omega) (by omega) (by omega) (by omega)
  rw [sem_at (fd := a__law_report) rfl]
  show outF a__law_report (evS (sem T n) a__law_report.body [.v (eL L), .un, .un, .un, .un]) = _
  unfold a__law_report
  dsimp only
  rw [seq_nx (ρ' := [.v (eL L), .ow false (.l []), .un, .un, .un]) (by simp [setS_eq]), s_seq]
  refine for_k (fun x => outF _ x = _) (rngI 0 (L.c + 1)) .int (I_rep L) (by simp [e0, rk, rngD_eq]) ⟨[], .un, .un, rfl, rfl, rfl, rfl⟩ ?_ ?_
  · rintro p rem ρ ⟨done, s2, s3, rfl, h2, h3, hd⟩
    refine ⟨_, by simp [asg, setS_eq, h2] <;> rfl, ?_⟩
    have hs : done.length < sizeLine := by
      have h1 : done.length ≤ (rngI 0 (L.c + 1)).length := by rw [← hd, List.length_append]; omega
      rw [rng_length] at h1
      unfold sizeLine; omega
    have st : evE (sem T n) (.lc (.var 4) (.nm 4) (.seq (.ix (.var 0) (.lit (.int 1)))) (.and (.cons (.cmp (.ix (.var 4) (.lit (.int 0))) (.one .le (.var 2))) (.cons (.cmp (.var 2) (.one .le (.ix (.var 4) (.lit (.int 1))))) .nil))) [4]) [.v (eL L), .ow false (.l (done.map fun p => eK (gL L p))), .v (.int p), s3, .un] =
        .ok (.nw (.l ((heldR L.rows p).map eR))) [.v (eL L), .ow false (.l (done.map fun p => eK (gL L p))), .v (.int p), s3, .un] := by
      rw [lc_map L.rows eR (fun r => decide (r.1 ≤ p) && decide (p ≤ r.2.1)) eR]
      · rfl
      · simp [e1]
      · simp [freeE_cons]
      · intro r hr
        refine ⟨_, by simp [asg, wipeE, setS_eq]; rfl, by simp [wipeE], ?_, fun _ => by simp⟩
        have k0 : ixD (eR r) (.int 0) = some (.int r.1) := by unfold eR; simp
        have k1 : ixD (eR r) (.int 1) = some (.int r.2.1) := by unfold eR; simp
        by_cases q : r.1 ≤ p <;> simp [k0, k1, q]
    have sm := sums_ok n (heldR L.rows p) p (a0 := .v (eL L)) (a1 := .ow false (.l (done.map fun p => eK (gL L p)))) rfl
    refine ⟨[.v (eL L), .ow false (.l ((done ++ [p]).map fun p => eK (gL L p))), .v (.int p), .v (.list ((heldR L.rows p).map eR)), .un], ?_, done ++ [p], _, _, rfl, rfl, rfl, by rw [← hd]; simp⟩
    refine go_seq (ρ' := [.v (eL L), .ow false (.l (done.map fun p => eK (gL L p))), .v (.int p), .ow false (.l ((heldR L.rows p).map eR)), .un]) (by rw [s_set, st]; simp [setS_eq, h3]) (go_seq (ρ' := [.v (eL L), .ow false (.l ((done ++ [p]).map fun p => eK (gL L p))), .v (.int p), .v (.list ((heldR L.rows p).map eR)), .un]) ?_ rfl)
    have eg : eK (tot (heldR L.rows p), tot ((heldR L.rows p).filter fun r => decide (r.1 = p))) = eK (gL L p) := rfl
    simp [-e_tup, sm, hs, eg]
  · rintro ρ' ⟨done, s2, s3, rfl, h2, h3, hd⟩
    rw [List.append_nil] at hd
    subst hd
    rw [sqF_nx]
    simp [rep_fin]
end Tx

namespace Tx
open PySem PySem.Spec L2 Sn Mx
/-- the sizes of the rows with a property of their ends -/
def ws (φ : Int → Int → Prop) [∀ a b, Decidable (φ a b)] (rows : List Rw) : Int := (rows.map fun r => if φ r.1 r.2.1 then r.2.2 else 0).sum
theorem ws_cons (φ : Int → Int → Prop) [∀ a b, Decidable (φ a b)] (r : Rw) (rem : List Rw) : ws φ (r :: rem) = (if φ r.1 r.2.1 then r.2.2 else 0) + ws φ rem := by unfold ws; simp
theorem ws_lin {φ ψ χ ω : Int → Int → Prop} [∀ a b, Decidable (φ a b)] [∀ a b, Decidable (ψ a b)] [∀ a b, Decidable (χ a b)] [∀ a b, Decidable (ω a b)] {c : Int} : ∀ {rows : List Rw}, (∀ r ∈ rows, goodR c r) →
    (∀ f l : Int, 0 ≤ f → f ≤ l → l ≤ c → (if φ f l then 1 else 0 : Nat) + (if ψ f l then 1 else 0) = (if χ f l then 1 else 0) + (if ω f l then 1 else 0)) → ws φ rows + ws ψ rows = ws χ rows + ws ω rows
  | [], _, _ => rfl
  | r :: rem, hg, h => by
    have ih := ws_lin (rows := rem) (fun a ha => hg a (List.mem_cons_of_mem _ ha)) h
    obtain ⟨g1, g2, g3⟩ := hg r (List.mem_cons_self ..)
    have := h r.1 r.2.1 g1 g2 g3
    rw [ws_cons, ws_cons, ws_cons, ws_cons]
    repeat' split at this
    all_goals simp_all <;> omega
theorem ws_no (rows : List Rw) : ws (fun _ _ => False) rows = 0 := by unfold ws; simp [sum_zero]
theorem ws_le {φ ψ χ : Int → Int → Prop} [∀ a b, Decidable (φ a b)] [∀ a b, Decidable (ψ a b)] [∀ a b, Decidable (χ a b)] {c : Int} : ∀ {rows : List Rw}, (∀ r ∈ rows, goodR c r) → (∀ r ∈ rows, 1 ≤ r.2.2) →
    (∀ f l : Int, 0 ≤ f → f ≤ l → l ≤ c → φ f l → ψ f l ∨ χ f l) → ws φ rows ≤ ws ψ rows + ws χ rows
  | [], _, _, _ => Int.le_refl _
  | r :: rem, hg, hp, h => by
    have ih := ws_le (rows := rem) (fun a ha => hg a (List.mem_cons_of_mem _ ha)) (fun a ha => hp a (List.mem_cons_of_mem _ ha)) h
    obtain ⟨g1, g2, g3⟩ := hg r (List.mem_cons_self ..)
    have p := hp r (List.mem_cons_self ..)
    have := h r.1 r.2.1 g1 g2 g3
    rw [ws_cons, ws_cons, ws_cons]
    by_cases q1 : φ r.1 r.2.1
    · rw [if_pos q1]
      rcases this q1 with q | q
      · rw [if_pos q]; split <;> omega
      · rw [if_pos q]; split <;> omega
    · rw [if_neg q1]; split <;> split <;> omega
theorem ws_sub {φ ψ : Int → Int → Prop} [∀ a b, Decidable (φ a b)] [∀ a b, Decidable (ψ a b)] {c : Int} {rows : List Rw} (hg : ∀ r ∈ rows, goodR c r) (hp : ∀ r ∈ rows, 1 ≤ r.2.2) (h : ∀ f l : Int, 0 ≤ f → f ≤ l → l ≤ c → φ f l → ψ f l) : ws φ rows ≤ ws ψ rows := by
  have := ws_le (φ := φ) (ψ := ψ) (χ := fun _ _ => False) hg hp fun f l a b d e => .inl (h f l a b d e)
  rw [ws_no] at this; omega
theorem ws_nn {φ : Int → Int → Prop} [∀ a b, Decidable (φ a b)] {c : Int} {rows : List Rw} (hg : ∀ r ∈ rows, goodR c r) (hp : ∀ r ∈ rows, 1 ≤ r.2.2) : 0 ≤ ws φ rows := by
  have := ws_sub (φ := fun _ _ => False) (ψ := φ) hg hp fun _ _ _ _ _ h => h.elim
  rw [ws_no] at this; exact this
theorem ws_all (rows : List Rw) : ws (fun _ _ => True) rows = tot rows := by unfold ws tot; simp
theorem hld_ws (rows : List Rw) (p : Int) : hld rows p = ws (fun f l => f ≤ p ∧ p ≤ l) rows := by
  unfold hld heldR ws tot
  induction rows with
  | nil => rfl
  | cons r rem ih =>
    rw [List.filter_cons, List.map_cons, List.sum_cons, ← ih]
    by_cases q : r.1 ≤ p ∧ p ≤ r.2.1
    · have : (decide (r.1 ≤ p) && decide (p ≤ r.2.1)) = true := by simp [q.1, q.2]
      rw [if_pos this, if_pos q]; simp
    · have : ¬ (decide (r.1 ≤ p) && decide (p ≤ r.2.1)) = true := by simpa using q
      rw [if_neg this, if_neg q]; omega
theorem nwv_ws (rows : List Rw) (p : Int) : nwv rows p = ws (fun f l => f = p ∧ p ≤ l) rows := by
  unfold nwv heldR ws tot
  induction rows with
  | nil => rfl
  | cons r rem ih =>
    rw [List.filter_filter] at ih ⊢
    rw [List.filter_cons, List.map_cons, List.sum_cons, ← ih]
    by_cases q : r.1 = p ∧ p ≤ r.2.1
    · have : (decide (r.1 = p) && (decide (r.1 ≤ p) && decide (p ≤ r.2.1))) = true := by simp [q.1, q.2]
      rw [if_pos this, if_pos q]; simp
    · have : ¬ (decide (r.1 = p) && (decide (r.1 ≤ p) && decide (p ≤ r.2.1))) = true := by
        simp; intro h1 h2; have : ¬ p ≤ r.2.1 := fun z => q ⟨h1, z⟩; omega
      rw [if_neg this, if_neg q]; omega
theorem frd_ws {c a b : Int} : ∀ {rows : List Rw}, (∀ r ∈ rows, goodR c r) → frd (rngI a b) rows = ws (fun f l => a ≤ f ∧ l < b) rows
  | [], _ => rfl
  | r :: rem, hg => by
    have ih := frd_ws (a := a) (b := b) (rows := rem) fun q hq => hg q (List.mem_cons_of_mem _ hq)
    obtain ⟨g1, g2, g3⟩ := hg r (List.mem_cons_self ..)
    rw [frd_cons, ws_cons, ih]
    by_cases q : a ≤ r.1 ∧ r.2.1 < b
    · rw [if_pos q, if_pos (gone_iff.mpr fun p p1 p2 => mem_rngI.mpr (by omega))]
    · rw [if_neg q, if_neg fun z => q ?_]
      have z1 := mem_rngI.mp (gone_iff.mp z r.1 (by omega) (by omega))
      have z2 := mem_rngI.mp (gone_iff.mp z r.2.1 (by omega) (by omega))
      omega
/-- what goes on behind p -/
def gon (rows : List Rw) (p : Int) : Int := ws (fun f l => f ≤ p ∧ p < l) rows
theorem gon_eq {c p : Int} {rows : List Rw} (hg : ∀ r ∈ rows, goodR c r) : hld rows (p + 1) - nwv rows (p + 1) = gon rows p := by
  rw [hld_ws, nwv_ws]
  have := ws_lin (φ := fun f l => f ≤ p + 1 ∧ p + 1 ≤ l) (ψ := fun _ _ => False) (χ := fun f l => f = p + 1 ∧ p + 1 ≤ l) (ω := fun f l => f ≤ p ∧ p < l) hg (by intro f l _ _ _; repeat' (first | contradiction | omega | split))
  rw [ws_no] at this
  unfold gon; omega
theorem gon_top {c : Int} {rows : List Rw} (hg : ∀ r ∈ rows, goodR c r) : gon rows c = 0 := by
  have := ws_lin (φ := fun f l => f ≤ c ∧ c < l) (ψ := fun _ _ => False) (χ := fun _ _ => False) (ω := fun _ _ => False) hg (by intro f l _ _ _; repeat' (first | contradiction | omega | split))
  rw [ws_no] at this
  unfold gon; omega
theorem crs_gon {L : Lay} (h : WL L) {p : Int} (hp : p ≤ L.c) : crs L.c (gL L) p = gon L.rows p := by
  unfold crs
  by_cases q : p < L.c
  · rw [if_pos q]; exact gon_eq h.good
  · rw [if_neg q, show p = L.c by omega, gon_top h.good]
theorem new_sum {c a : Int} {rows : List Rw} (hg : ∀ r ∈ rows, goodR c r) (d : Nat) : ((rngI a (a + d)).map (nwv rows)).sum = ws (fun f _ => a ≤ f ∧ f < a + d) rows := by
  induction d with
  | zero =>
    have e : rngI a (a + ((0 : Nat) : Int)) = [] := List.eq_nil_of_length_eq_zero (by rw [rng_length]; omega)
    have := ws_lin (φ := fun f _ => a ≤ f ∧ f < a + ((0 : Nat) : Int)) (ψ := fun _ _ => False) (χ := fun _ _ => False) (ω := fun _ _ => False) hg (by intro f l _ _ _; repeat' (first | contradiction | omega | split))
    rw [ws_no] at this
    rw [e]; simp only [List.map_nil, List.sum_nil]; omega
  | succ d ih =>
    rw [show a + ((d + 1 : Nat) : Int) = (a + d) + 1 by omega, rng_snoc (by omega), List.map_append, List.sum_append, ih, List.map_cons, List.map_nil, List.sum_cons, List.sum_nil, nwv_ws]
    have := ws_lin (φ := fun f _ => a ≤ f ∧ f < a + d) (ψ := fun f l => f = a + d ∧ a + d ≤ l) (χ := fun f _ => a ≤ f ∧ f < a + d + 1) (ω := fun _ _ => False) hg (by intro f l _ _ _; repeat' (first | contradiction | omega | split))
    rw [ws_no] at this
    omega
theorem end_sum {c a : Int} {rows : List Rw} (hg : ∀ r ∈ rows, goodR c r) (d : Nat) : ((rngI a (a + d)).map fun p => hld rows p - gon rows p).sum = ws (fun _ l => a ≤ l ∧ l < a + d) rows := by
  induction d with
  | zero =>
    have e : rngI a (a + ((0 : Nat) : Int)) = [] := List.eq_nil_of_length_eq_zero (by rw [rng_length]; omega)
    have := ws_lin (φ := fun _ l => a ≤ l ∧ l < a + ((0 : Nat) : Int)) (ψ := fun _ _ => False) (χ := fun _ _ => False) (ω := fun _ _ => False) hg (by intro f l _ _ _; repeat' (first | contradiction | omega | split))
    rw [ws_no] at this
    rw [e]; simp only [List.map_nil, List.sum_nil]; omega
  | succ d ih =>
    rw [show a + ((d + 1 : Nat) : Int) = (a + d) + 1 by omega, rng_snoc (by omega), List.map_append, List.sum_append, ih, List.map_cons, List.map_nil, List.sum_cons, List.sum_nil, hld_ws]
    have h1 := ws_lin (φ := fun f l => f ≤ a + d ∧ a + d ≤ l) (ψ := fun _ _ => False) (χ := fun f l => f ≤ a + d ∧ a + d < l) (ω := fun _ l => l = a + d) hg (by intro f l _ _ _; repeat' (first | contradiction | omega | split))
    have h2 := ws_lin (φ := fun _ l => a ≤ l ∧ l < a + d) (ψ := fun _ l => l = a + d) (χ := fun _ l => a ≤ l ∧ l < a + d + 1) (ω := fun _ _ => False) hg (by intro f l _ _ _; repeat' (first | contradiction | omega | split))
    rw [ws_no] at h1 h2
    unfold gon; omega
/-- what passes a run -/
def psd (rows : List Rw) (f0 l0 : Int) : Int := ws (fun f l => f < f0 ∧ l0 < l) rows
theorem ins_eq {L : Lay} (h : WL L) {f l : Int} (h0 : 0 ≤ f) (h1 : f ≤ l) (h2 : l < L.c) : ins L.c (gL L) f l = frd (rngI f (l + 1)) L.rows - psd L.rows f l := by
  unfold ins
  rw [crs_gon h (by omega), frd_ws h.good]
  have hs := new_sum (a := f) h.good (l + 1 - f).toNat
  rw [show f + ((l + 1 - f).toNat : Int) = l + 1 by omega] at hs
  rw [show (fun p => (gL L p).2) = nwv L.rows from rfl, hs]
  have := ws_lin (φ := fun f' _ => f ≤ f' ∧ f' < l + 1) (ψ := fun f' l' => f' < f ∧ l < l') (χ := fun f' l' => f ≤ f' ∧ l' < l + 1) (ω := fun f' l' => f' ≤ l ∧ l < l') h.good (by intro f l _ _ _; repeat' (first | contradiction | omega | split))
  unfold gon psd; omega
theorem ent_eq {L : Lay} (h : WL L) {f : Int} : ent (gL L) f = ws (fun f' l' => f' < f ∧ f ≤ l') L.rows := by
  unfold ent
  show hld L.rows f - nwv L.rows f = _
  have := gon_eq (p := f - 1) h.good
  rw [show f - 1 + 1 = f by omega] at this
  rw [this]
  unfold gon
  have := ws_lin (φ := fun f' l' => f' ≤ f - 1 ∧ f - 1 < l') (ψ := fun _ _ => False) (χ := fun f' l' => f' < f ∧ f ≤ l') (ω := fun _ _ => False) h.good (by intro f l _ _ _; repeat' (first | contradiction | omega | split))
  rw [ws_no] at this; omega
theorem ends_eq {L : Lay} (h : WL L) {f l : Int} (h0 : 0 ≤ f) (h1 : f ≤ l) (h2 : l < L.c) : ends' L.c (gL L) f l = ws (fun _ l' => f ≤ l' ∧ l' < l + 1) L.rows := by
  unfold ends'
  have hs := end_sum (a := f) h.good (l + 1 - f).toNat
  rw [show f + ((l + 1 - f).toNat : Int) = l + 1 by omega] at hs
  rw [← hs]
  congr 1
  refine List.map_congr_left fun p hp => ?_
  rw [mem_rngI] at hp
  rw [crs_gon h (by omega)]; rfl
theorem lo_le {L : Lay} (h : WL L) {f l : Int} (h0 : 0 ≤ f) (h1 : f ≤ l) (h2 : l < L.c) : loP L.c (gL L) f l ≤ psd L.rows f l := by
  unfold loP
  rw [ent_eq h, ends_eq h h0 h1 h2]
  have p0 : 0 ≤ psd L.rows f l := ws_nn h.good h.pos
  have := ws_le (φ := fun f' l' => f' < f ∧ f ≤ l') (ψ := fun _ l' => f ≤ l' ∧ l' < l + 1) (χ := fun f' l' => f' < f ∧ l < l') h.good h.pos (by intro f l _ _ _ _; omega)
  unfold psd at p0 ⊢
  split <;> omega
theorem le_fold (m : Int) : ∀ (l : List Int) (a : Int), m ≤ a → (∀ x ∈ l, m ≤ x) → m ≤ l.foldl minI a
  | [], a, h, _ => h
  | x :: l, a, h, hl => by
    rw [List.foldl_cons]
    refine le_fold m l _ ?_ fun y hy => hl y (List.mem_cons_of_mem _ hy)
    have := hl x (List.mem_cons_self ..)
    unfold minI; split <;> omega
theorem le_hi {L : Lay} (h : WL L) {f l : Int} (h0 : 0 ≤ f) (h1 : f ≤ l) (h2 : l < L.c) : psd L.rows f l ≤ hiP L.c (gL L) f l := by
  unfold hiP
  refine le_fold _ _ _ ?_ fun x hx => ?_
  · rw [ent_eq h]
    exact ws_sub h.good h.pos (by intro f l _ _ _ _; omega)
  · obtain ⟨p, hp, rfl⟩ := List.mem_map.mp hx
    rw [mem_rngI] at hp
    rw [crs_gon h (by omega)]
    exact ws_sub h.good h.pos (by intro f l _ _ _ _; omega)
theorem hld_le {L : Lay} (h : WL L) (p : Int) : 0 ≤ hld L.rows p ∧ hld L.rows p ≤ tot L.rows ∧ 0 ≤ nwv L.rows p ∧ nwv L.rows p ≤ hld L.rows p := by
  rw [hld_ws, nwv_ws, ← ws_all]
  exact ⟨ws_nn h.good h.pos, ws_sub h.good h.pos fun _ _ _ _ _ _ => trivial, ws_nn h.good h.pos, ws_sub h.good h.pos (by intro f l _ _ _ _; omega)⟩
theorem rep_good {L : Lay} (h : WL L) : RepOk L.c (gL L) := by
  have ht := h.tot
  refine ⟨h.c0, h.c1, fun p _ _ => ?_, ?_, fun p p0 p1 => ?_⟩
  · have := hld_le h p
    show isA (hld L.rows p) ∧ isA (nwv L.rows p)
    unfold isA; omega
  · show hld L.rows 0 = nwv L.rows 0
    rw [hld_ws, nwv_ws]
    have := ws_lin (φ := fun f l => f ≤ 0 ∧ 0 ≤ l) (ψ := fun _ _ => False) (χ := fun f l => f = 0 ∧ 0 ≤ l) (ω := fun _ _ => False) h.good (by intro f l _ _ _; repeat' (first | contradiction | omega | split))
    rw [ws_no] at this; omega
  · show 0 ≤ hld L.rows (p + 1) - nwv L.rows (p + 1) ∧ hld L.rows (p + 1) - nwv L.rows (p + 1) ≤ hld L.rows p
    rw [gon_eq h.good, hld_ws]
    exact ⟨ws_nn h.good h.pos, ws_sub h.good h.pos (by intro f l _ _ _ _; omega)⟩
end Tx

namespace Tx
open PySem PySem.Spec L2 Sn Mx
theorem sum_mapP (P : K2 → Bool) (φ : K2 → Option K2) : ∀ items : List (K2 × Int), sumP P (mapK φ items) = sumP (fun k => match φ k with | some k' => P k' | none => false) items
  | [] => rfl
  | q :: r => by
    have ih := sum_mapP P φ r
    have e : ∀ (P : K2 → Bool) (q : K2 × Int) r, sumP P (q :: r) = (if P q.1 = true then q.2 else 0) + sumP P r := fun P q r => by unfold sumP; rw [List.map_cons, List.sum_cons]
    rw [mapK_cons, e, ← ih]
    cases h : φ q.1 with
    | none => simp
    | some k => simp only; rw [e]
theorem ws_itm (φ : Int → Int → Prop) [∀ a b, Decidable (φ a b)] (rows : List Rw) : ws φ rows = sumP (fun k => decide (φ k.1 k.2)) (itm rows) := by
  unfold ws sumP itm
  rw [List.map_map]
  congr 1
  refine List.map_congr_left fun r _ => ?_
  simp [key]
theorem NN_run {a b : Nat} (h : a ≤ b) : ∀ x : Nat, NN (rngI a b) x = if x ≤ a then x else if x ≤ b then a else x - (b - a)
  | 0 => by simp [NN]
  | x + 1 => by
    rw [NN, NN_run h x]
    have : (x : Int) ∈ rngI a b ↔ a ≤ x ∧ x < b := by rw [mem_rngI]; omega
    by_cases q : a ≤ x ∧ x < b
    · rw [if_pos (this.mpr q)]; repeat' (first | omega | split)
    · rw [if_neg fun z => q (this.mp z)]; repeat' (first | omega | split)
theorem ph_run {f l f' l' c : Int} (h0 : 0 ≤ f) (h1 : f ≤ l) (g0 : 0 ≤ f') (g1 : f' ≤ l') (g2 : l' ≤ c) :
    ((match ph (rngI f (l + 1)) (f', l') with | some k => decide (k.1 = f ∧ f ≤ k.2) | none => false) = true) ↔ (f ≤ f' ∧ f' ≤ l + 1 ∧ l + 1 ≤ l') := by
  obtain ⟨a, rfl⟩ : ∃ a : Nat, f = a := ⟨f.toNat, by omega⟩
  obtain ⟨b, hb⟩ : ∃ b : Nat, l + 1 = b := ⟨(l + 1).toNat, by omega⟩
  obtain ⟨x, rfl⟩ : ∃ x : Nat, f' = x := ⟨f'.toNat, by omega⟩
  obtain ⟨y, hy⟩ : ∃ y : Nat, l' + 1 = y := ⟨(l' + 1).toNat, by omega⟩
  unfold ph
  simp only
  rw [hb, hy, show ((x : Int)).toNat = x by omega, show ((y : Int)).toNat = y by omega, NN_run (by omega) x, NN_run (by omega) y]
  by_cases q : (if x ≤ a then x else if x ≤ b then a else x - (b - a)) < (if y ≤ a then y else if y ≤ b then a else y - (b - a))
  · rw [if_pos q]
    simp only [decide_eq_true_eq]
    repeat' (first | omega | split at q)
    all_goals (repeat' (first | omega | split))
  · rw [if_neg q]
    simp only [Bool.false_eq_true, false_iff]
    repeat' (first | omega | split at q)
theorem new_red {L : Lay} (h : WL L) {f l : Int} (h0 : 0 ≤ f) (h1 : f ≤ l) : nwv (red L (rngI f (l + 1))).rows f = hld L.rows (l + 1) - psd L.rows f l := by
  show nwv (redRows (rngI f (l + 1)) L.rows) f = _
  have e : nwv (redRows (rngI f (l + 1)) L.rows) f = ws (fun f' l' => f ≤ f' ∧ f' ≤ l + 1 ∧ l + 1 ≤ l') L.rows := by
    rw [nwv_ws, ws_itm]
    unfold redRows
    rw [sum_grp, sum_mapP]
    unfold ws sumP itm
    rw [List.map_map]
    congr 1
    refine List.map_congr_left fun r hr => ?_
    obtain ⟨g0, g1, g2⟩ := h.good r hr
    have := ph_run (f' := r.1) (l' := r.2.1) h0 h1 g0 g1 g2
    simp only [Function.comp_def, key]
    by_cases q : f ≤ r.1 ∧ r.1 ≤ l + 1 ∧ l + 1 ≤ r.2.1
    · rw [if_pos q]
      exact if_pos (this.mpr q)
    · rw [if_neg q]
      exact if_neg fun z => q (this.mp z)
  rw [e, hld_ws]
  have := ws_lin (φ := fun f' l' => f ≤ f' ∧ f' ≤ l + 1 ∧ l + 1 ≤ l') (ψ := fun f' l' => f' < f ∧ l < l') (χ := fun f' l' => f' ≤ l + 1 ∧ l + 1 ≤ l') (ω := fun _ _ => False) h.good (by intro f l _ _ _; repeat' (first | contradiction | omega | split))
  rw [ws_no] at this
  unfold psd; omega
/-- the new number behind the run -/
def nw' (L : Lay) (f l : Int) : Int := nwv (red L (rngI f (l + 1))).rows f
theorem rvl_new {L : Lay} (h : WL L) {f l : Int} (h0 : 0 ≤ f) (h1 : f ≤ l) (h2 : l < L.c) : rvl L.c (gL L) f l (nw' L f l) = .int (frd (rngI f (l + 1)) L.rows) := by
  have e1 := ins_eq h h0 h1 h2
  have e2 := new_red h h0 h1
  have e3 := lo_le h h0 h1 h2
  have e4 := le_hi h h0 h1 h2
  unfold rvl nw'
  rw [e2, e1]
  show (if loP L.c (gL L) f l ≤ hld L.rows (l + 1) - (hld L.rows (l + 1) - psd L.rows f l) ∧ hld L.rows (l + 1) - (hld L.rows (l + 1) - psd L.rows f l) ≤ hiP L.c (gL L) f l then PyData.int (frd (rngI f (l + 1)) L.rows - psd L.rows f l + (hld L.rows (l + 1) - (hld L.rows (l + 1) - psd L.rows f l))) else .none) = _
  rw [if_pos ⟨by omega, by omega⟩]
  congr 1
  omega
theorem rvl_near {L : Lay} (h : WL L) {f l near : Int} (h0 : 0 ≤ f) (h1 : f ≤ l) (h2 : l < L.c) : rvl L.c (gL L) f l near =
    if ins L.c (gL L) f l + loP L.c (gL L) f l ≤ frd (rngI f (l + 1)) L.rows + nw' L f l - near ∧ frd (rngI f (l + 1)) L.rows + nw' L f l - near ≤ ins L.c (gL L) f l + hiP L.c (gL L) f l then .int (frd (rngI f (l + 1)) L.rows + nw' L f l - near) else .none := by
  have e1 := ins_eq h h0 h1 h2
  have e2 := new_red h h0 h1
  unfold rvl nw'
  rw [e2]
  show (if loP L.c (gL L) f l ≤ hld L.rows (l + 1) - near ∧ hld L.rows (l + 1) - near ≤ hiP L.c (gL L) f l then PyData.int (ins L.c (gL L) f l + (hld L.rows (l + 1) - near)) else .none) = _
  by_cases q : loP L.c (gL L) f l ≤ hld L.rows (l + 1) - near ∧ hld L.rows (l + 1) - near ≤ hiP L.c (gL L) f l
  · rw [if_pos q, if_pos (by omega)]; congr 1; omega
  · rw [if_neg q, if_neg (by omega)]
end Tx

namespace Tx
open PySem PySem.Spec L2 Sn Mx
theorem ne_int (i : Int) : cmpD .ne (.int i) (.int i) = some false := ne_self rfl
theorem ne_none' : cmpD .ne .none .none = some false := ne_self rfl
abbrev bNear : Sx := (.seq (.ite (.cmp (.var 11) (.one .ge (.lit (.int 0)))) (.seq (.set 14 (.bin .sub (.bin .add (.call 52 (.cons (.var 4) (.cons (.var 9) .nil))) (.var 10)) (.var 11)))
    (.seq (.set 15 (.ite (.cmp (.var 12) (.more .le (.var 14) (.one .le (.var 13)))) (.var 14) (.lit .none)))
    (.seq (.ite (.cmp (.call 122 (.cons (.var 5) (.cons (.var 6) (.cons (.var 7) (.cons (.var 11) .nil))))) (.one .ne (.var 15))) (.seq (.ret (.lit (.bool false)))
    .skip) .skip)
    .skip))) .skip)
    .skip)
def env25 (L : Lay) (f l : Int) (a0 a1 a2 a3 a8 s11 s14 s15 : Sl) : En := [a0, a1, a2, a3, .v (eL L), .v (eRep L.c (gL L)), .v (.int f), .v (.int l), a8, .v (eT (rngI f (l + 1))), .v (.int (nw' L f l)), s11, .v (.int (ins L.c (gL L) f l + loP L.c (gL L) f l)), .v (.int (ins L.c (gL L) f l + hiP L.c (gL L) f l)), s14, s15]
theorem near_ok (n : Nat) {L : Lay} (hL : WL L) {f l : Int} (h0 : 0 ≤ f) (h1 : f ≤ l) (h2 : l < L.c) {A : List Int} (hA : ∀ a ∈ A, a ≤ 1000000000000000) {it : Sn.It} {a0 a1 a2 a3 a8 s11 s14 s15 : Sl} (h11 : Frs (some s11) = true) (h14 : Frs (some s14) = true) (h15 : Frs (some s15) = true)
    (hev : evI (sem T (n+5)) it (env25 L f l a0 a1 a2 a3 a8 s11 s14 s15) = .ok (A.map .int) (env25 L f l a0 a1 a2 a3 a8 s11 s14 s15)) :
    ∃ s11' s14' s15', Frs (some s11') = true ∧ Frs (some s14') = true ∧ Frs (some s15') = true ∧
    evS (sem T (n+5)) (.for_ (.nm 11) it bNear) (env25 L f l a0 a1 a2 a3 a8 s11 s14 s15) = .ok .nx (env25 L f l a0 a1 a2 a3 a8 s11' s14' s15') := by
  obtain ⟨ρ', e, s11', s14', s15', rfl, h11', h14', h15', _⟩ := forL_run (Φ := sem T (n+5)) (tg := .nm 11) (it := it) (b := bNear) (ρ := env25 L f l a0 a1 a2 a3 a8 s11 s14 s15) A .int
    (fun rem ρ => ∃ s11 s14 s15, ρ = env25 L f l a0 a1 a2 a3 a8 s11 s14 s15 ∧ Frs (some s11) = true ∧ Frs (some s14) = true ∧ Frs (some s15) = true ∧ ∀ a ∈ rem, a ≤ 1000000000000000)
    hev ⟨_, _, _, rfl, h11, h14, h15, hA⟩ (by
      rintro a rem ρ ⟨s11, s14, s15, rfl, h11, h14, h15, hm⟩
      refine ⟨env25 L f l a0 a1 a2 a3 a8 (.v (.int a)) s14 s15, by unfold env25; simp [asg, setS_eq, h11], ?_⟩
      have ha := hm a (List.mem_cons_self ..)
      by_cases q : 0 ≤ a
      · have fr := lawfreed_ok (n+4) L (rngI f (l + 1)) (lay_small (lay_ok hL))
        have rv := rvl_ok n (rep_good hL) h0 h1 h2 (new := a) ⟨q, ha⟩
        have rn := rvl_near hL (near := a) h0 h1 h2
        refine ⟨env25 L f l a0 a1 a2 a3 a8 (.v (.int a)) (.v (.int (frd (rngI f (l + 1)) L.rows + nw' L f l - a))) (.v (rvl L.c (gL L) f l a)), ?_, _, _, _, rfl, rfl, rfl, rfl, fun x hx => hm x (List.mem_cons_of_mem _ hx)⟩
        have st1 : evS (sem T (n+5)) (.set 14 (.bin .sub (.bin .add (.call 52 (.cons (.var 4) (.cons (.var 9) .nil))) (.var 10)) (.var 11))) (env25 L f l a0 a1 a2 a3 a8 (.v (.int a)) s14 s15) =
            .ok .nx (env25 L f l a0 a1 a2 a3 a8 (.v (.int a)) (.v (.int (frd (rngI f (l + 1)) L.rows + nw' L f l - a))) s15) := by unfold env25; simp [fr, setS_eq, h14]
        have st2 : evS (sem T (n+5)) (.set 15 (.ite (.cmp (.var 12) (.more .le (.var 14) (.one .le (.var 13)))) (.var 14) (.lit .none))) (env25 L f l a0 a1 a2 a3 a8 (.v (.int a)) (.v (.int (frd (rngI f (l + 1)) L.rows + nw' L f l - a))) s15) =
            .ok .nx (env25 L f l a0 a1 a2 a3 a8 (.v (.int a)) (.v (.int (frd (rngI f (l + 1)) L.rows + nw' L f l - a))) (.v (rvl L.c (gL L) f l a))) := by
          rw [rn]
          unfold env25
          by_cases q1 : ins L.c (gL L) f l + loP L.c (gL L) f l ≤ frd (rngI f (l + 1)) L.rows + nw' L f l - a
          · by_cases q2 : frd (rngI f (l + 1)) L.rows + nw' L f l - a ≤ ins L.c (gL L) f l + hiP L.c (gL L) f l
            · rw [if_pos ⟨q1, q2⟩]; simp [q1, q2, setS_eq, h15]
            · rw [if_neg (fun z => q2 z.2)]; simp [q1, q2, setS_eq, h15]
          · rw [if_neg (fun z => q1 z.1)]; simp [q1, setS_eq, h15]
        have ne : cmpD .ne (rvl L.c (gL L) f l a) (rvl L.c (gL L) f l a) = some false := by unfold rvl; split; exact ne_int _; exact ne_none'
        have st3 : evS (sem T (n+5)) (.ite (.cmp (.call 122 (.cons (.var 5) (.cons (.var 6) (.cons (.var 7) (.cons (.var 11) .nil))))) (.one .ne (.var 15))) (.seq (.ret (.lit (.bool false))) .skip) .skip) (env25 L f l a0 a1 a2 a3 a8 (.v (.int a)) (.v (.int (frd (rngI f (l + 1)) L.rows + nw' L f l - a))) (.v (rvl L.c (gL L) f l a))) =
            .ok .nx (env25 L f l a0 a1 a2 a3 a8 (.v (.int a)) (.v (.int (frd (rngI f (l + 1)) L.rows + nw' L f l - a))) (.v (rvl L.c (gL L) f l a))) := by unfold env25; simp [rv, ne]
        refine go_seq ?_ rfl
        have body := go_seq st1 (go_seq st2 (go_seq st3 (rfl : evS (sem T (n+5)) .skip _ = _)))
        have cnd : evE (sem T (n+5)) (.cmp (.var 11) (.one .ge (.lit (.int 0)))) (env25 L f l a0 a1 a2 a3 a8 (.v (.int a)) s14 s15) = .ok (.v (.bool true)) (env25 L f l a0 a1 a2 a3 a8 (.v (.int a)) s14 s15) := by unfold env25; simp [q]
        rw [s_ite, cnd]
        simp only [bnd_ok, toB_b, if_true]
        exact body
      · refine ⟨env25 L f l a0 a1 a2 a3 a8 (.v (.int a)) s14 s15, ?_, _, _, _, rfl, rfl, h14, h15, fun x hx => hm x (List.mem_cons_of_mem _ hx)⟩
        unfold env25
        exact go_seq (by simp [q]) rfl)
  exact ⟨s11', s14', s15', h11', h14', h15', e⟩
end Tx

namespace Tx
open PySem PySem.Spec L2 Sn Mx
abbrev iNear : Sn.It := .seq (.lst (.cons (.bin .sub (.var 10) (.lit (.int 1))) (.cons (.bin .add (.var 10) (.lit (.int 1))) (.cons (.ix (.ix (.var 5) (.bin .add (.var 7) (.lit (.int 1)))) (.lit (.int 0))) (.cons (.ix (.ix (.var 5) (.bin .add (.var 7) (.lit (.int 1)))) (.lit (.int 1))) (.cons (.bin .add (.ix (.ix (.var 5) (.bin .add (.var 7) (.lit (.int 1)))) (.lit (.int 0))) (.lit (.int 1))) .nil))))))
abbrev bRun : Sx := (.seq (.set 9 (.tupRg (.var 6) (.bin .add (.var 7) (.lit (.int 1)))))
    (.seq (.set 10 (.ix (.ix (.call 25 (.cons (.call 10 (.cons (.var 4) (.cons (.var 9) .nil))) .nil)) (.var 6)) (.lit (.int 1))))
    (.seq (.ite (.cmp (.call 122 (.cons (.var 5) (.cons (.var 6) (.cons (.var 7) (.cons (.var 10) .nil))))) (.one .ne (.call 52 (.cons (.var 4) (.cons (.var 9) .nil))))) (.seq (.ret (.lit (.bool false)))
    .skip) .skip)
    (.seq (.setT (.tp (.cs (.nm 12) (.cs (.nm 13) .nl))) (.call 31 (.cons (.var 5) (.cons (.var 6) (.cons (.var 7) .nil)))))
    (.seq (.for_ (.nm 11) iNear bNear)
    .skip)))))
theorem run25 (n : Nat) {L : Lay} (hL : WL L) (ht : tot L.rows ≤ 1000000000000) {f l : Int} (h0 : 0 ≤ f) (h1 : f ≤ l) (h2 : l < L.c) {a0 a1 a2 a3 a8 s9 s10 s11 s12 s13 s14 s15 : Sl}
    (h9 : Frs (some s9) = true) (h10 : Frs (some s10) = true) (h11 : Frs (some s11) = true) (h12 : Frs (some s12) = true) (h13 : Frs (some s13) = true) (h14 : Frs (some s14) = true) (h15 : Frs (some s15) = true) :
    ∃ s11' s14' s15', Frs (some s11') = true ∧ Frs (some s14') = true ∧ Frs (some s15') = true ∧
    evS (sem T (n+5)) bRun [a0, a1, a2, a3, .v (eL L), .v (eRep L.c (gL L)), .v (.int f), .v (.int l), a8, s9, s10, s11, s12, s13, s14, s15] = .ok .nx (env25 L f l a0 a1 a2 a3 a8 s11' s14' s15') := by
  have c0 := hL.c0
  have c1 := hL.c1
  have hS : VS L.c (rngI f (l + 1)) := ⟨fun v hv => by rw [mem_rngI] at hv; omega, rngI_asc _ _⟩
  have hR := hL.red hS
  have hG := rep_good hL
  have rk := rngOk_k (a := f) (b := l + 1) (by omega) (by omega) (by omega) (by omega)
  have e1 := after_w n hL hS
  have e2 := rep_ok n hR
  have rl := red_len c0 hS
  rw [rng_length] at rl
  have rc : (red L (rngI f (l + 1))).c = L.c - (l + 1 - f) := by show ((leftOf _ L.c).length : Int) - 1 = _; rw [rl]; omega
  have i1 : ixD (eRep (red L (rngI f (l + 1))).c (gL (red L (rngI f (l + 1))))) (.int f) = some (eK (gL (red L (rngI f (l + 1))) f)) := ix_rngT h0 (by rw [rc]; omega) _
  have i2 : ixD (eK (gL (red L (rngI f (l + 1))) f)) (.int 1) = some (.int (nw' L f l)) := by unfold eK; exact ix_t1 _ _ _
  have hn : isA (nw' L f l) := (rep_good hR).am f h0 (by rw [rc]; omega) |>.2
  have e3 := rvl_ok n hG h0 h1 h2 hn
  rw [rvl_new hL h0 h1 h2] at e3
  have e4 := lawfreed_ok (n+4) L (rngI f (l + 1)) (lay_small (lay_ok hL))
  have e5 := fr_ok n hG h0 h1 h2
  have j1 : ixD (eRep L.c (gL L)) (.int (l + 1)) = some (eK (gL L (l + 1))) := ix_rngT (by omega) (by omega) _
  have j2 : ixD (eK (gL L (l + 1))) (.int 0) = some (.int (hld L.rows (l + 1))) := by unfold eK; exact ix_t0 _ _
  have j3 : ixD (eK (gL L (l + 1))) (.int 1) = some (.int (nwv L.rows (l + 1))) := by unfold eK; exact ix_t1 _ _ _
  have hh := hld_le hL (l + 1)
  have hw := hld_le hR f
  have tr : nw' L f l ≤ hld L.rows (l + 1) := by
    have := new_red hL h0 h1
    have p0 : 0 ≤ psd L.rows f l := ws_nn hL.good hL.pos
    unfold nw'; omega
  obtain ⟨s11', s14', s15', h11', h14', h15', e6⟩ := near_ok n hL h0 h1 h2 (A := [nw' L f l - 1, nw' L f l + 1, hld L.rows (l + 1), nwv L.rows (l + 1), hld L.rows (l + 1) + 1]) (by
    intro a ha
    simp only [List.mem_cons, List.not_mem_nil, or_false] at ha
    rcases ha with rfl | rfl | rfl | rfl | rfl <;> omega) (it := iNear) (a0 := a0) (a1 := a1) (a2 := a2) (a3 := a3) (a8 := a8) h11 h14 h15 (by
      unfold env25; simp [j1, j2, j3, sizeLine])
  refine ⟨s11', s14', s15', h11', h14', h15', ?_⟩
  refine go_seq (ρ' := [a0, a1, a2, a3, .v (eL L), .v (eRep L.c (gL L)), .v (.int f), .v (.int l), a8, .v (eT (rngI f (l + 1))), s10, s11, s12, s13, s14, s15]) (by simp [rk, rngD_eq, setS_eq, h9, eT]) ?_
  refine go_seq (ρ' := [a0, a1, a2, a3, .v (eL L), .v (eRep L.c (gL L)), .v (.int f), .v (.int l), a8, .v (eT (rngI f (l + 1))), .v (.int (nw' L f l)), s11, s12, s13, s14, s15]) (by simp [e1, e2, i1, i2, setS_eq, h10]) ?_
  refine go_seq (ρ' := [a0, a1, a2, a3, .v (eL L), .v (eRep L.c (gL L)), .v (.int f), .v (.int l), a8, .v (eT (rngI f (l + 1))), .v (.int (nw' L f l)), s11, s12, s13, s14, s15]) (by simp [e3, e4]) ?_
  refine go_seq (ρ' := env25 L f l a0 a1 a2 a3 a8 s11 s14 s15) (by unfold env25; simp [e5, asg, setS_eq, h12, h13]) ?_
  exact go_seq e6 rfl
abbrev bFirst : Sx := (.seq (.for_ (.nm 7) (.rng (.var 6) (.ix (.var 4) (.lit (.int 0)))) bRun) .skip)
def I_25 (L : Lay) (a0 a1 a2 a3 s6 a8 : Sl) (ρ : En) : Prop := ∃ s7 s9 s10 s11 s12 s13 s14 s15, ρ = [a0, a1, a2, a3, .v (eL L), .v (eRep L.c (gL L)), s6, s7, a8, s9, s10, s11, s12, s13, s14, s15] ∧
  Frs (some s7) = true ∧ Frs (some s9) = true ∧ Frs (some s10) = true ∧ Frs (some s11) = true ∧ Frs (some s12) = true ∧ Frs (some s13) = true ∧ Frs (some s14) = true ∧ Frs (some s15) = true
theorem first25 (n : Nat) {L : Lay} (hL : WL L) (ht : tot L.rows ≤ 1000000000000) {f : Int} (h0 : 0 ≤ f) (h1 : f < L.c) {a0 a1 a2 a3 a8 : Sl} {ρ : En} (hI : I_25 L a0 a1 a2 a3 (.v (.int f)) a8 ρ) :
    ∃ ρ', evS (sem T (n+5)) bFirst ρ = .ok .nx ρ' ∧ I_25 L a0 a1 a2 a3 (.v (.int f)) a8 ρ' := by
  have c1 := hL.c1
  have e0 : ixD (eL L) (.int 0) = some (.int L.c) := by simp [eL]
  have rk := rngOk_k (a := f) (b := L.c) (by omega) (by omega) (by omega) (by omega)
  obtain ⟨ρ', e, hI', _⟩ := forL_run (Φ := sem T (n+5)) (tg := .nm 7) (it := .rng (.var 6) (.ix (.var 4) (.lit (.int 0)))) (b := bRun) (ρ := ρ) (rngI f L.c) .int
    (fun rem ρ => I_25 L a0 a1 a2 a3 (.v (.int f)) a8 ρ ∧ ∀ l ∈ rem, f ≤ l ∧ l < L.c) (ρ0 := ρ) (by
      obtain ⟨s7, s9, s10, s11, s12, s13, s14, s15, rfl, _⟩ := hI
      simp [e0, rk, rngD_eq]) ⟨hI, fun l hl => mem_rngI.mp hl⟩ (by
      rintro l rem ρ ⟨⟨s7, s9, s10, s11, s12, s13, s14, s15, rfl, h7, h9, h10, h11, h12, h13, h14, h15⟩, hm⟩
      obtain ⟨m1, m2⟩ := hm l (List.mem_cons_self ..)
      obtain ⟨s11', s14', s15', h11', h14', h15', e⟩ := run25 n hL ht h0 m1 m2 (a0 := a0) (a1 := a1) (a2 := a2) (a3 := a3) (a8 := a8) h9 h10 h11 h12 h13 h14 h15
      exact ⟨_, by simp [asg, setS_eq, h7] <;> rfl, _, e, ⟨_, _, _, _, _, _, _, _, rfl, rfl, rfl, rfl, h11', rfl, rfl, h14', h15'⟩, fun x hx => hm x (List.mem_cons_of_mem _ hx)⟩)
  exact ⟨ρ', go_seq e rfl, hI'⟩
theorem runs25 (n : Nat) {L : Lay} (hL : WL L) (ht : tot L.rows ≤ 1000000000000) {a0 a1 a2 a3 s6 a8 : Sl} (h6 : Frs (some s6) = true) {ρ : En} (hI : I_25 L a0 a1 a2 a3 s6 a8 ρ) :
    ∃ ρ' s6', evS (sem T (n+5)) (.for_ (.nm 6) (.rng (.lit (.int 0)) (.ix (.var 4) (.lit (.int 0)))) bFirst) ρ = .ok .nx ρ' ∧ I_25 L a0 a1 a2 a3 s6' a8 ρ' ∧ Frs (some s6') = true := by
  have c0 := hL.c0
  have c1 := hL.c1
  have e0 : ixD (eL L) (.int 0) = some (.int L.c) := by simp [eL]
  have rk := rngOk_k (a := 0) (b := L.c) (by omega) (by omega) (by omega) (by omega)
  obtain ⟨ρ', e, s6', hI', h6', _⟩ := forL_run (Φ := sem T (n+5)) (tg := .nm 6) (it := .rng (.lit (.int 0)) (.ix (.var 4) (.lit (.int 0)))) (b := bFirst) (ρ := ρ) (rngI 0 L.c) .int
    (fun rem ρ => ∃ s6, I_25 L a0 a1 a2 a3 s6 a8 ρ ∧ Frs (some s6) = true ∧ ∀ f ∈ rem, 0 ≤ f ∧ f < L.c) (ρ0 := ρ) (by
      obtain ⟨s7, s9, s10, s11, s12, s13, s14, s15, rfl, _⟩ := hI
      simp [e0, rk, rngD_eq]) ⟨s6, hI, h6, fun l hl => mem_rngI.mp hl⟩ (by
      rintro f rem ρ ⟨s6, ⟨s7, s9, s10, s11, s12, s13, s14, s15, rfl, h7, h9, h10, h11, h12, h13, h14, h15⟩, h6, hm⟩
      obtain ⟨m1, m2⟩ := hm f (List.mem_cons_self ..)
      obtain ⟨ρ', e, hI'⟩ := first25 n hL ht m1 m2 (a0 := a0) (a1 := a1) (a2 := a2) (a3 := a3) (a8 := a8) ⟨s7, s9, s10, s11, s12, s13, s14, s15, rfl, h7, h9, h10, h11, h12, h13, h14, h15⟩
      exact ⟨_, by simp [asg, setS_eq, h6] <;> rfl, ρ', e, _, hI', rfl, fun x hx => hm x (List.mem_cons_of_mem _ hx)⟩)
  exact ⟨ρ', s6', e, hI', h6'⟩
theorem odd25 (n : Nat) {L : Lay} (hL : WL L) (hc : 0 < L.c) {a0 a1 a2 a3 a4 a6 a7 s8 a9 a10 a11 a12 a13 a14 a15 : Sl} (h8 : Frs (some s8) = true) : ∃ s8', Frs (some s8') = true ∧
    evS (sem T (n+6)) (.for_ (.nm 8) (.seq (.lst (.cons (.neg (.lit (.int 1))) (.cons (.bin .add (.bin .pow (.lit (.int 10)) (.lit (.int 15))) (.lit (.int 1))) (.cons (.lit .none) (.cons (.lit (.bool true)) (.cons (.lit (.str "1")) .nil))))))) (.seq (.ite (.cmp (.call 123 (.cons (.var 5) (.cons (.var 8) .nil))) (.one .ne (.lit (.str "number")))) (.seq (.ret (.lit (.bool false)))
    .skip) .skip)
    .skip)) [a0, a1, a2, a3, a4, .v (eRep L.c (gL L)), a6, a7, s8, a9, a10, a11, a12, a13, a14, a15] =
      .ok .nx [a0, a1, a2, a3, a4, .v (eRep L.c (gL L)), a6, a7, s8', a9, a10, a11, a12, a13, a14, a15] := by
  obtain ⟨ρ', e, s8', rfl, h8', _⟩ := forL_run (Φ := sem T (n+6)) (tg := .nm 8) (it := .seq (.lst (.cons (.neg (.lit (.int 1))) (.cons (.bin .add (.bin .pow (.lit (.int 10)) (.lit (.int 15))) (.lit (.int 1))) (.cons (.lit .none) (.cons (.lit (.bool true)) (.cons (.lit (.str "1")) .nil)))))))
    (b := (.seq (.ite (.cmp (.call 123 (.cons (.var 5) (.cons (.var 8) .nil))) (.one .ne (.lit (.str "number")))) (.seq (.ret (.lit (.bool false))) .skip) .skip) .skip))
    (ρ := [a0, a1, a2, a3, a4, .v (eRep L.c (gL L)), a6, a7, s8, a9, a10, a11, a12, a13, a14, a15]) oddN id
    (fun rem ρ => ∃ s8, ρ = [a0, a1, a2, a3, a4, .v (eRep L.c (gL L)), a6, a7, s8, a9, a10, a11, a12, a13, a14, a15] ∧ Frs (some s8) = true ∧ ∀ d ∈ rem, d ∈ oddN)
    (by simp [oddN, pw15, sizeLine]) ⟨s8, rfl, h8, fun _ h => h⟩ (by
      rintro d rem ρ ⟨s8, rfl, h8, hm⟩
      obtain ⟨o1, o2⟩ := oddN_ok d (hm d (List.mem_cons_self ..))
      have oc := out25_ok n (rep_good hL) hc o1 o2
      exact ⟨_, by simp [asg, setS_eq, h8] <;> rfl, _, go_seq (by simp [oc, ne_number] <;> rfl) rfl, _, rfl, rfl, fun x hx => hm x (List.mem_cons_of_mem _ hx)⟩)
  exact ⟨s8', h8', e⟩
end Tx

namespace Tx
open PySem PySem.Spec L2 Sn Mx
def gX (p : Int) : K2 := if p = 0 then (10, 10) else if p = 1 then (21, 11) else if p = 2 then (12, 5) else (9, 2)
theorem gX_ok : RepOk 3 gX := by
  have cs : ∀ p : Int, 0 ≤ p → p ≤ 3 → p = 0 ∨ p = 1 ∨ p = 2 ∨ p = 3 := fun p _ _ => by omega
  refine ⟨by decide, by decide, fun p h0 h1 => ?_, by decide, fun p h0 h1 => ?_⟩
  · rcases cs p h0 h1 with rfl | rfl | rfl | rfl <;> (unfold isA gX; decide)
  · have : p = 0 ∨ p = 1 ∨ p = 2 := by omega
    rcases this with rfl | rfl | rfl <;> (unfold gX; decide)
theorem gX_9 : rvl 3 gX 1 1 9 = .int 7 := by
  have e1 : loP 3 gX 1 1 = 0 := by decide +kernel
  have e2 : hiP 3 gX 1 1 = 7 := by decide +kernel
  have e3 : ins 3 gX 1 1 = 4 := by decide +kernel
  unfold rvl
  rw [e1, e2, e3, if_pos (by decide +kernel), show (4 : Int) + ((gX (1 + 1)).1 - 9) = 7 by decide +kernel]
theorem gX_4 : rvl 3 gX 1 1 4 = .none := by
  have e1 : loP 3 gX 1 1 = 0 := by decide +kernel
  have e2 : hiP 3 gX 1 1 = 7 := by decide +kernel
  unfold rvl
  rw [e1, e2, if_neg (by decide +kernel)]
def I_k25 (ns : List Int) (rem : List Int) (ρ : En) : Prop := ∃ s1 s2 s3 s4 s5 s6 s7 s8 s9 s10 s11 s12 s13 s14 s15, ρ = [.v (scr (ns.map .int)), s1, s2, s3, s4, s5, s6, s7, s8, s9, s10, s11, s12, s13, s14, s15] ∧
  (Frs (some s1) = true ∧ Frs (some s2) = true ∧ Frs (some s3) = true ∧ Frs (some s4) = true ∧ Frs (some s5) = true ∧ Frs (some s6) = true) ∧
  (Frs (some s7) = true ∧ Frs (some s8) = true ∧ Frs (some s9) = true ∧ Frs (some s10) = true ∧ Frs (some s11) = true ∧ Frs (some s12) = true) ∧
  (Frs (some s13) = true ∧ Frs (some s14) = true ∧ Frs (some s15) = true) ∧ ∀ k ∈ rem, 0 ≤ k ∧ k < 1000
theorem math_k25 (ns : List Int) (hns : ns.length ≤ 63) : ∃ io, sem T 16 124 [scr (ns.map .int)] = .ret (.v (.bool true)) io := by
  rw [sem_at (fd := a_law_k25) rfl]
  show ∃ io, outF a_law_k25 (evS (sem T 15) a_law_k25.body [.v (scr (ns.map .int)), .un, .un, .un, .un, .un, .un, .un, .un, .un, .un, .un, .un, .un, .un, .un]) = _
  unfold a_law_k25
  dsimp only
  rw [s_seq]
  obtain ⟨m, m0, m1, em⟩ := law_rng 15 ns (a := 5) (b := 20) (ρ := [.v (scr (ns.map .int)), .un, .un, .un, .un, .un, .un, .un, .un, .un, .un, .un, .un, .un, .un, .un]) (by omega) (by omega) (by omega) rfl
  refine for_kE (fun x => ∃ io, outF _ x = .ret (.v (.bool true)) io) _ (rngI 0 m) .int (I_k25 ns) em ⟨_, _, _, _, _, _, _, _, _, _, _, _, _, _, _, rfl, ⟨rfl, rfl, rfl, rfl, rfl, rfl⟩, ⟨rfl, rfl, rfl, rfl, rfl, rfl⟩, ⟨rfl, rfl, rfl⟩, fun k hk => by have := mem_rngI.mp hk; omega⟩ ?_ ?_
  · rintro k rem ρ ⟨s1, s2, s3, s4, s5, s6, s7, s8, s9, s10, s11, s12, s13, s14, s15, rfl, ⟨h1, h2, h3, h4, h5, h6⟩, ⟨h7, h8, h9, h10, h11, h12⟩, ⟨h13, h14, h15⟩, hk⟩
    obtain ⟨k0, k1⟩ := hk k (List.mem_cons_self ..)
    refine ⟨_, by simp [asg, setS_eq, h1] <;> rfl, ?_⟩
    obtain ⟨j, rfl⟩ : ∃ j : Nat, k = j := ⟨k.toNat, by omega⟩
    obtain ⟨io1, hio1, e1⟩ := source_ok 14 ns j (by omega)
    obtain ⟨v, io2, v0, v1, hio2, e2⟩ := pick_ok 14 hio1 (size := 2) (by omega) (by omega)
    obtain ⟨most, q0, q1, e3⟩ : ∃ most : Int, 0 ≤ most ∧ most ≤ 10 ∧ ixD (.list [.int 4, .int 10]) (.int v) = some (.int most) := by
      have : v = 0 ∨ v = 1 := by omega
      rcases this with rfl | rfl
      · exact ⟨4, by omega, by omega, rfl⟩
      · exact ⟨10, by omega, by omega, rfl⟩
    obtain ⟨io3, L, hio3, hL, hc, ht, e4⟩ := lay_drawn' 13 hio2 (most := most) q0 (by omega)
    have e5 : ixD (eL L) (.int 0) = some (.int L.c) := by simp [eL]
    have e6 := lawrep_ok 14 hL
    obtain ⟨ρ7, s6', e7, ⟨t7, t9, t10, t11, t12, t13, t14, t15, rfl, g7, g9, g10, g11, g12, g13, g14, g15⟩, h6'⟩ := runs25 10 hL ht (a0 := .v (scr (ns.map .int))) (a1 := .v (.int j)) (a2 := s2) (a3 := .ow false (.l io3)) (a8 := s8) h6 ⟨s7, s9, s10, s11, s12, s13, s14, s15, rfl, h7, h9, h10, h11, h12, h13, h14, h15⟩
    obtain ⟨s8', h8', e8⟩ : ∃ s8', Frs (some s8') = true ∧ evS (sem T 15) (.ite (.cmp (.ix (.var 4) (.lit (.int 0))) (.one .gt (.lit (.int 0)))) (.seq (.for_ (.nm 8) (.seq (.lst (.cons (.neg (.lit (.int 1))) (.cons (.bin .add (.bin .pow (.lit (.int 10)) (.lit (.int 15))) (.lit (.int 1))) (.cons (.lit .none) (.cons (.lit (.bool true)) (.cons (.lit (.str "1")) .nil))))))) (.seq (.ite (.cmp (.call 123 (.cons (.var 5) (.cons (.var 8) .nil))) (.one .ne (.lit (.str "number")))) (.seq (.ret (.lit (.bool false)))
    .skip) .skip)
    .skip))
    .skip) .skip) [.v (scr (ns.map .int)), .v (.int j), s2, .ow false (.l io3), .v (eL L), .v (eRep L.c (gL L)), s6', t7, s8, t9, t10, t11, t12, t13, t14, t15] = .ok .nx [.v (scr (ns.map .int)), .v (.int j), s2, .ow false (.l io3), .v (eL L), .v (eRep L.c (gL L)), s6', t7, s8', t9, t10, t11, t12, t13, t14, t15] := by
      by_cases q : 0 < L.c
      · obtain ⟨s8', h8', e⟩ := odd25 9 hL q (a0 := .v (scr (ns.map .int))) (a1 := .v (.int j)) (a2 := s2) (a3 := .ow false (.l io3)) (a4 := .v (eL L)) (a6 := s6') (a7 := t7) (a9 := t9) (a10 := t10) (a11 := t11) (a12 := t12) (a13 := t13) (a14 := t14) (a15 := t15) h8
        refine ⟨s8', h8', ?_⟩
        have cnd : evE (sem T 15) (.cmp (.ix (.var 4) (.lit (.int 0))) (.one .gt (.lit (.int 0)))) [.v (scr (ns.map .int)), .v (.int j), s2, .ow false (.l io3), .v (eL L), .v (eRep L.c (gL L)), s6', t7, s8, t9, t10, t11, t12, t13, t14, t15] = .ok (.v (.bool true)) [.v (scr (ns.map .int)), .v (.int j), s2, .ow false (.l io3), .v (eL L), .v (eRep L.c (gL L)), s6', t7, s8, t9, t10, t11, t12, t13, t14, t15] := by simp [e5, q]
        rw [s_ite, cnd]
        simp only [bnd_ok, toB_b, if_true]
        exact go_seq e rfl
      · exact ⟨s8, h8, by simp [e5, q]⟩
    refine ⟨_, go_seq (by simp [e1, setS_eq, h3] <;> rfl) (go_seq (by simp [e2, e3, e4, setS_eq, h4] <;> rfl)
      (go_seq (ρ' := [.v (scr (ns.map .int)), .v (.int j), s2, .ow false (.l io3), .v (eL L), .v (eRep L.c (gL L)), s6, s7, s8, s9, s10, s11, s12, s13, s14, s15]) (by simp [e6, setS_eq, h5])
      (go_seq e7 (go_seq e8 rfl)))), _, _, _, _, _, _, _, _, _, _, _, _, _, _, _, rfl, ⟨rfl, h2, rfl, rfl, rfl, h6'⟩, ⟨g7, h8', g9, g10, g11, g12⟩, ⟨g13, g14, g15⟩, fun k hk' => hk k (List.mem_cons_of_mem _ hk')⟩
  · rintro ρ' ⟨s1, s2, s3, s4, s5, s6, s7, s8, s9, s10, s11, s12, s13, s14, s15, rfl, ⟨_, h2, _⟩, _, _, _⟩
    refine ⟨[], ?_⟩
    rw [sqF_nx]
    have ex : eRep 3 gX = .tuple [.tuple [.int 10, .int 10], .tuple [.int 21, .int 11], .tuple [.int 12, .int 5], .tuple [.int 9, .int 2]] := rfl
    have w1 := rvl_ok 10 gX_ok (f := 1) (l := 1) (new := 9) (by omega) (by omega) (by omega) ⟨by omega, by omega⟩
    have w2 := rvl_ok 10 gX_ok (f := 1) (l := 1) (new := 4) (by omega) (by omega) (by omega) ⟨by omega, by omega⟩
    rw [gX_9, ex] at w1
    rw [gX_4, ex] at w2
    rw [show 10 + 5 = 15 from rfl] at w1 w2
    have nn : cmpD .isN .none .none = some true := rfl
    simp [setS_eq, h2, sizeLine, w1, w2, nn]
end Tx

namespace Tx
open PySem PySem.Spec L2 Sn Mx
theorem flat_l (S : List Int) : (S.map PyData.int).all isFlat = true := by simp [isFlat]
theorem in_li (p : Int) (S : List Int) : cmpD .inn (.int p) (.list (S.map .int)) = some (decide (p ∈ S)) := by
  show (if (isFlat (.int p) && (S.map PyData.int).all isFlat) = true then some ((S.map PyData.int).any fun z => PyData.eqv z (.int p)) else _) = _
  rw [flat_l, show isFlat (.int p) = true from rfl, show (true && true) = true from rfl, if_pos rfl]
  congr 1
  rw [Bool.eq_iff_iff]
  simp [PyData.eqv]
theorem notIn_li (p : Int) (S : List Int) : cmpD .notIn (.int p) (.list (S.map .int)) = some (!decide (p ∈ S)) := by
  show (if (isFlat (.int p) && (S.map PyData.int).all isFlat) = true then some (!(S.map PyData.int).any fun z => PyData.eqv z (.int p)) else _) = _
  rw [flat_l, show isFlat (.int p) = true from rfl, show (true && true) = true from rfl, if_pos rfl]
  congr 2
  rw [Bool.eq_iff_iff]
  simp [PyData.eqv]
/-- the base of a transfer, or none -/
def eB : Option Int → D
  | none => .none
  | some b => .int b
def sPr (o : Option Int) (t f l : Int) : Bool := decide (f ≤ t) && (decide (t ≤ l) && (match o with | none => true | some b => decide (b < f)))
def sn (rows : List Rw) (o : Option Int) (t : Int) : Int := ws (fun f l => sPr o t f l = true) rows
def I_sn (L : Lay) (o : Option Int) (t : Int) (rem : List Rw) (ρ : En) : Prop := ∃ acc s4 s5 s6, Frs (some s4) = true ∧ Frs (some s5) = true ∧ Frs (some s6) = true ∧ ρ = [.v (eL L), .v (eB o), .v (.int t), .v (.int acc), s4, s5, s6] ∧ acc + sn rem o t = sn L.rows o t
theorem sn_cons (r : Rw) (rem : List Rw) (o : Option Int) (t : Int) : sn (r :: rem) o t = (if sPr o t r.1 r.2.1 = true then r.2.2 else 0) + sn rem o t := ws_cons _ _ _
theorem sent_ok (n : Nat) (L : Lay) (o : Option Int) (t : Int) : sem T (n+1) 103 [eL L, eB o, .int t] = .ret (.v (.int (sn L.rows o t))) [] := by
  rw [sem_at (fd := a_sent) rfl]
  show outF a_sent (evS (sem T n) a_sent.body [.v (eL L), .v (eB o), .v (.int t), .un, .un, .un, .un]) = _
  unfold a_sent
  dsimp only
  rw [seq_nx (ρ' := [.v (eL L), .v (eB o), .v (.int t), .v (.int 0), .un, .un, .un]) (by simp [setS_eq]), s_seq]
  refine for_k (fun x => outF _ x = _) L.rows eR (I_sn L o t) (by simp [eL]) ⟨0, .un, .un, .un, rfl, rfl, rfl, rfl, by omega⟩ ?_ ?_
  · rintro r rem ρ ⟨acc, s4, s5, s6, h4, h5, h6, rfl, hs⟩
    rw [sn_cons] at hs
    refine ⟨_, by simp [asg, eR, setS_eq, h4, h5, h6]; rfl, ?_⟩
    have n1 : cmpD .isN (eB none) .none = some true := rfl
    have n2 : ∀ b, cmpD .isN (eB (some b)) .none = some false := fun _ => rfl
    have n3 : ∀ b, cmpD .lt (eB (some b)) (.int r.1) = some (decide (b < r.1)) := fun _ => rfl
    have fin : ∀ ac : Int, ac + sn rem o t = sn L.rows o t → I_sn L o t rem [.v (eL L), .v (eB o), .v (.int t), .v (.int ac), .v (.int r.1), .v (.int r.2.1), .v (.int r.2.2)] := fun ac h => ⟨ac, _, _, _, rfl, rfl, rfl, rfl, h⟩
    by_cases q1 : r.1 ≤ t
    · by_cases q2 : t ≤ r.2.1
      · cases o with
        | none =>
          have : sPr none t r.1 r.2.1 = true := by simp [sPr, q1, q2]
          rw [if_pos this] at hs
          exact ⟨_, by simp [q1, q2, n1, setS_eq] <;> rfl, fin (acc + r.2.2) (by omega)⟩
        | some b =>
          by_cases q3 : b < r.1
          · have : sPr (some b) t r.1 r.2.1 = true := by simp [sPr, q1, q2, q3]
            rw [if_pos this] at hs
            exact ⟨_, by simp [q1, q2, q3, n2, n3, setS_eq] <;> rfl, fin (acc + r.2.2) (by omega)⟩
          · have : ¬ sPr (some b) t r.1 r.2.1 = true := by simp [sPr, q3]
            rw [if_neg this] at hs
            exact ⟨_, by simp [q1, q2, q3, n2, n3] <;> rfl, fin acc (by omega)⟩
      · have : ¬ sPr o t r.1 r.2.1 = true := by simp [sPr, q2]
        rw [if_neg this] at hs
        exact ⟨_, by simp [q1, q2] <;> rfl, fin acc (by omega)⟩
    · have : ¬ sPr o t r.1 r.2.1 = true := by simp [sPr, q1]
      rw [if_neg this] at hs
      exact ⟨_, by simp [q1] <;> rfl, fin acc (by omega)⟩
  · rintro ρ' ⟨acc, s4, s5, s6, h4, h5, h6, rfl, hs⟩
    have : sn [] o t = 0 := rfl
    rw [this] at hs
    simp at hs ⊢
    exact hs
def I_lsn (L : Lay) (o : Option Int) (t : Int) (rem : List Rw) (ρ : En) : Prop := ∃ acc s4 s5 s6 s7, Frs (some s4) = true ∧ Frs (some s5) = true ∧ Frs (some s6) = true ∧ Frs (some s7) = true ∧ ρ = [.v (eL L), .v (eB o), .v (.int t), .v (.int acc), s4, s5, s6, s7] ∧ acc + sn rem o t = sn L.rows o t ∧ ∀ r ∈ rem, smallR r
theorem lawsent_ok (n : Nat) {L : Lay} (hr : ∀ r ∈ L.rows, smallR r) {o : Option Int} {t : Int} (ho : ∀ b, o = some b → b < t) : sem T (n+1) 106 [eL L, eB o, .int t] = .ret (.v (.int (sn L.rows o t))) [] := by
  rw [sem_at (fd := a__law_sent) rfl]
  show outF a__law_sent (evS (sem T n) a__law_sent.body [.v (eL L), .v (eB o), .v (.int t), .un, .un, .un, .un, .un]) = _
  unfold a__law_sent
  dsimp only
  rw [seq_nx (ρ' := [.v (eL L), .v (eB o), .v (.int t), .v (.int 0), .un, .un, .un, .un]) (by simp [setS_eq]), s_seq]
  refine for_k (fun x => outF _ x = _) L.rows eR (I_lsn L o t) (by simp [eL]) ⟨0, .un, .un, .un, .un, rfl, rfl, rfl, rfl, rfl, by omega, hr⟩ ?_ ?_
  · rintro r rem ρ ⟨acc, s4, s5, s6, s7, h4, h5, h6, h7, rfl, hs, hm⟩
    rw [sn_cons] at hs
    have hb := hm r (List.mem_cons_self ..)
    unfold smallR at hb
    have rk := rngOk_k (a := r.1) (b := r.2.1 + 1) (by omega) (by omega) (by omega) (by omega)
    refine ⟨_, by simp [asg, eR, setS_eq, h4, h5, h6]; rfl, ?_⟩
    have n1 : cmpD .isN (eB none) .none = some true := rfl
    have n2 : ∀ b, cmpD .isN (eB (some b)) .none = some false := fun _ => rfl
    have i1 := in_li t (rngI r.1 (r.2.1 + 1))
    have i2 : ∀ b, cmpD .notIn (eB (some b)) (.list ((rngI r.1 (r.2.1 + 1)).map .int)) = some (!decide (b ∈ rngI r.1 (r.2.1 + 1))) := fun b => notIn_li b _
    have fin : ∀ ac : Int, ac + sn rem o t = sn L.rows o t → I_lsn L o t rem [.v (eL L), .v (eB o), .v (.int t), .v (.int ac), .v (.int r.1), .v (.int r.2.1), .v (.int r.2.2), .ow false (.l ((rngI r.1 (r.2.1 + 1)).map .int))] := fun ac h => ⟨ac, _, _, _, _, rfl, rfl, rfl, rfl, rfl, h, fun a ha => hm a (List.mem_cons_of_mem _ ha)⟩
    have st : evS (sem T n) (.set 7 (.listRg (.var 4) (.bin .add (.var 5) (.lit (.int 1))))) [.v (eL L), .v (eB o), .v (.int t), .v (.int acc), .v (.int r.1), .v (.int r.2.1), .v (.int r.2.2), s7] =
        .ok .nx [.v (eL L), .v (eB o), .v (.int t), .v (.int acc), .v (.int r.1), .v (.int r.2.1), .v (.int r.2.2), .ow false (.l ((rngI r.1 (r.2.1 + 1)).map .int))] := by simp [rk, rngD_eq, setS_eq, h7]
    by_cases q1 : t ∈ rngI r.1 (r.2.1 + 1)
    · have m1 := mem_rngI.mp q1
      cases o with
      | none =>
        have : sPr none t r.1 r.2.1 = true := by simp [sPr]; omega
        rw [if_pos this] at hs
        exact ⟨_, go_seq st (go_seq (by simp [i1, q1, n1, setS_eq] <;> rfl) rfl), fin (acc + r.2.2) (by omega)⟩
      | some b =>
        have hbt := ho b rfl
        by_cases q3 : b ∈ rngI r.1 (r.2.1 + 1)
        · have m3 := mem_rngI.mp q3
          have : ¬ sPr (some b) t r.1 r.2.1 = true := by simp [sPr]; omega
          rw [if_neg this] at hs
          exact ⟨_, go_seq st (go_seq (by simp [i1, q1, n2, i2, q3] <;> rfl) rfl), fin acc (by omega)⟩
        · have m3 : ¬ (r.1 ≤ b ∧ b < r.2.1 + 1) := fun z => q3 (mem_rngI.mpr z)
          have : sPr (some b) t r.1 r.2.1 = true := by simp [sPr]; omega
          rw [if_pos this] at hs
          exact ⟨_, go_seq st (go_seq (by simp [i1, q1, n2, i2, q3, setS_eq] <;> rfl) rfl), fin (acc + r.2.2) (by omega)⟩
    · have m1 : ¬ (r.1 ≤ t ∧ t < r.2.1 + 1) := fun z => q1 (mem_rngI.mpr z)
      have : ¬ sPr o t r.1 r.2.1 = true := by simp [sPr]; intros; omega
      rw [if_neg this] at hs
      exact ⟨_, go_seq st (go_seq (by simp [i1, q1] <;> rfl) rfl), fin acc (by omega)⟩
  · rintro ρ' ⟨acc, s4, s5, s6, s7, h4, h5, h6, h7, rfl, hs, _⟩
    have : sn [] o t = 0 := rfl
    rw [this] at hs
    simp at hs ⊢
    exact hs
end Tx

namespace Mx
open PySem L2 Sn
theorem NN_app {S : List Int} {p : Nat} (hp : (p : Int) ∉ S) : ∀ x : Nat, NN (S ++ [(p : Int)]) x = if p < x then NN S x - 1 else NN S x
  | 0 => by simp [NN]
  | x + 1 => by
    have ih := NN_app hp x
    rw [NN, NN, ih]
    by_cases e : x = p
    · subst e
      rw [if_neg (by omega), if_pos (by simp), if_pos (by omega), if_neg hp]; omega
    · have m : ((x : Int) ∈ S ++ [(p : Int)]) ↔ (x : Int) ∈ S := by
        rw [List.mem_append, List.mem_singleton]
        constructor
        · rintro (h | h)
          · exact h
          · exact absurd (by omega : x = p) e
        · exact .inl
      have hN : p < x → 1 ≤ NN S x := fun h => by
        have h1 := NN_mono S (show p + 1 ≤ x by omega)
        have h2 : NN S (p + 1) = NN S p + 1 := by rw [NN, if_neg hp]
        omega
      by_cases q : p < x
      · have := hN q
        rw [if_pos q, if_pos (show p < x + 1 by omega)]
        by_cases c : (x : Int) ∈ S
        · rw [if_pos (m.mpr c), if_pos c]; omega
        · rw [if_neg (fun z => c (m.mp z)), if_neg c]; omega
      · rw [if_neg q, if_neg (show ¬ p < x + 1 by omega)]
        by_cases c : (x : Int) ∈ S
        · rw [if_pos (m.mpr c), if_pos c]
        · rw [if_neg (fun z => c (m.mp z)), if_neg c]
theorem rank_lt {S : List Int} {p : Nat} (hp : (p : Int) ∉ S) (x : Nat) : NN S p < NN S x ↔ p < x := by
  constructor
  · intro h
    by_cases q : p < x
    · exact q
    · have := NN_mono S (show x ≤ p by omega); omega
  · intro h
    have h1 := NN_mono S (show p + 1 ≤ x by omega)
    have h2 : NN S (p + 1) = NN S p + 1 := by rw [NN, if_neg hp]
    omega
theorem NN_then {S : List Int} {p : Nat} (hp : (p : Int) ∉ S) (x : Nat) : NN [((NN S p : Nat) : Int)] (NN S x) = NN (S ++ [(p : Int)]) x := by
  rw [NN_one, NN_app hp]
  have := rank_lt hp x
  by_cases q : p < x
  · rw [if_pos q, if_pos (this.mpr q)]
  · rw [if_neg q, if_neg fun z => q (this.mp z)]
theorem ph_then {S : List Int} {p : Nat} (hp : (p : Int) ∉ S) (k : K2) : (ph S k).bind (ph [((NN S p : Nat) : Int)]) = ph (S ++ [(p : Int)]) k := by
  have e := NN_then hp
  unfold ph
  by_cases c : NN S k.1.toNat < NN S (k.2 + 1).toNat
  · rw [if_pos c]
    simp only [Option.bind_some]
    have e1 : ((NN S k.1.toNat : Nat) : Int).toNat = NN S k.1.toNat := by omega
    have e2 : (((NN S (k.2 + 1).toNat : Nat) : Int) - 1 + 1).toNat = NN S (k.2 + 1).toNat := by omega
    rw [e1, e2, e, e]
  · rw [if_neg c]
    simp only [Option.bind_none]
    have m := NN_mono [((NN S p : Nat) : Int)] (show NN S (k.2 + 1).toNat ≤ NN S k.1.toNat by omega)
    rw [e, e] at m
    rw [if_neg (by omega)]
theorem red_then {S : List Int} {p : Nat} (hp : (p : Int) ∉ S) (rows : List Rw) : redRows [((NN S p : Nat) : Int)] (redRows S rows) = redRows (S ++ [(p : Int)]) rows := by
  unfold redRows
  rw [grp_mapK, mapK_mapK]
  congr 1
  exact mapK_congr fun k _ => ph_then hp k
theorem frd_then {S : List Int} {p : Nat} (hp : (p : Int) ∉ S) {rows : List Rw} (hk : ∀ r ∈ rows, 0 ≤ r.1 ∧ r.1 ≤ r.2.1) (hk2 : ∀ r ∈ redRows S rows, 0 ≤ r.1 ∧ r.1 ≤ r.2.1) :
    frd S rows + frd [((NN S p : Nat) : Int)] (redRows S rows) = frd (S ++ [(p : Int)]) rows := by
  have h1 := tot_red S hk
  have h2 := tot_red (S ++ [(p : Int)]) hk
  have h3 := tot_red [((NN S p : Nat) : Int)] hk2
  rw [red_then hp] at h3
  omega
/-- the m-th of those left: its rank is m -/
theorem left_rank {S : List Int} : ∀ {n m : Nat} {q : Int}, (leftN S n)[m]? = some q → ∃ p : Nat, q = p ∧ p < n ∧ (p : Int) ∉ S ∧ NN S p = m
  | 0, m, q, h => by simp [leftN] at h
  | n + 1, m, q, h => by
    rw [leftN] at h
    by_cases c : m < (leftN S n).length
    · rw [List.getElem?_append_left c] at h
      obtain ⟨p, e1, e2, e3, e4⟩ := left_rank h
      exact ⟨p, e1, by omega, e3, e4⟩
    · rw [List.getElem?_append_right (by omega)] at h
      by_cases d : (n : Int) ∈ S
      · rw [if_pos d] at h; simp at h
      · rw [if_neg d] at h
        have hm : m - (leftN S n).length = 0 := by
          by_cases z : m - (leftN S n).length = 0
          · exact z
          · rw [List.getElem?_eq_none (by simp; omega)] at h; cases h
        rw [hm] at h
        simp at h
        refine ⟨n, h.symm, by omega, d, ?_⟩
        rw [len_leftN] at hm c; omega
/-- without the m-th of those left -/
theorem left_then {S : List Int} {p : Nat} (hp : (p : Int) ∉ S) : ∀ n : Nat, p < n → leftN (S ++ [(p : Int)]) n = (leftN S n).eraseIdx (NN S p)
  | 0, h => by omega
  | n + 1, h => by
    rw [leftN, leftN]
    by_cases e : n = p
    · subst e
      have same : ∀ m ≤ n, leftN (S ++ [(n : Int)]) m = leftN S m := by
        intro m
        induction m with
        | zero => intro _; rfl
        | succ m ih =>
          intro hm
          rw [leftN, leftN, ih (by omega)]
          congr 1
          have : ((m : Int) ∈ S ++ [(n : Int)]) ↔ (m : Int) ∈ S := by
            rw [List.mem_append, List.mem_singleton]
            constructor
            · rintro (h | h)
              · exact h
              · omega
            · exact .inl
          by_cases c : (m : Int) ∈ S
          · rw [if_pos (this.mpr c), if_pos c]
          · rw [if_neg (fun z => c (this.mp z)), if_neg c]
      rw [same n (Nat.le_refl _), if_pos (by simp), if_neg hp, List.append_nil, List.eraseIdx_append_of_length_le (by rw [len_leftN]; omega), len_leftN]
      simp
    · have ih := left_then hp n (by omega)
      have hl : NN S p < (leftN S n).length := by rw [len_leftN]; exact (rank_lt hp n).mpr (by omega)
      rw [ih, List.eraseIdx_append_of_lt_length hl]
      congr 1
      have : ((n : Int) ∈ S ++ [(p : Int)]) ↔ (n : Int) ∈ S := by
        rw [List.mem_append, List.mem_singleton]
        constructor
        · rintro (h | h)
          · exact h
          · omega
        · exact .inl
      by_cases c : (n : Int) ∈ S
      · rw [if_pos (this.mpr c), if_pos c]
      · rw [if_neg (fun z => c (this.mp z)), if_neg c]
end Mx

namespace Mx
open PySem L2 Sn
abbrev ltK (p q : K2) : Bool := PySem.W.DatumOrd.lt p q
theorem ltK_iff (p q : K2) : ltK p q = true ↔ p.1 < q.1 ∨ (p.1 = q.1 ∧ p.2 < q.2) := by
  show (if p.1 = q.1 then decide (p.2 < q.2) else decide (p.1 < q.1)) = true ↔ _
  by_cases h : p.1 = q.1
  · rw [if_pos h, decide_eq_true_eq]; omega
  · rw [if_neg h, decide_eq_true_eq]; omega
theorem min_spec : ∀ (xs : List K2) (x : K2), PySem.W.minOf x xs ∈ x :: xs ∧ ∀ y ∈ x :: xs, ¬ ltK y (PySem.W.minOf x xs) = true
  | [], x => ⟨by simp [PySem.W.minOf], by intro y hy; simp at hy; subst hy; rw [ltK_iff]; simp [PySem.W.minOf]⟩
  | z :: xs, x => by
    have e : PySem.W.minOf x (z :: xs) = PySem.W.minOf (if ltK z x = true then z else x) xs := rfl
    obtain ⟨i1, i2⟩ := min_spec xs (if ltK z x = true then z else x)
    rw [e]
    refine ⟨?_, fun y hy => ?_⟩
    · rcases List.mem_cons.mp i1 with h | h
      · rw [h]; split <;> simp
      · exact List.mem_cons_of_mem _ (List.mem_cons_of_mem _ h)
    · have b := i2 _ (List.mem_cons_self ..)
      by_cases q : ltK z x = true
      · rw [if_pos q] at b i2 ⊢
        rcases List.mem_cons.mp hy with rfl | hy
        · rw [ltK_iff] at b q ⊢; omega
        · exact i2 y hy
      · rw [if_neg q] at b i2 ⊢
        rcases List.mem_cons.mp hy with rfl | hy
        · exact b
        · rcases List.mem_cons.mp hy with rfl | hy
          · rw [ltK_iff] at b q ⊢; omega
          · exact i2 y (List.mem_cons_of_mem _ hy)
theorem max_spec : ∀ (l : List Int) (a : Int), l.foldl maxI a ∈ a :: l ∧ ∀ y ∈ a :: l, y ≤ l.foldl maxI a := fun l a => by
  obtain ⟨h1, h2, h3⟩ := foldMax l a
  refine ⟨?_, fun y hy => ?_⟩
  · rcases h1 with h | h
    · rw [h]; simp
    · exact List.mem_cons_of_mem _ h
  · rcases List.mem_cons.mp hy with rfl | hy
    · exact h2
    · exact h3 y hy
/-- the least pair stands where the first largest size stands -/
theorem pick_first (F : Int → Int) {a : Int} {r : List Int} (hs : (a :: r).Pairwise fun x y => x < y) :
    ∃ p, (a :: r)[((a :: r).map F).idxOf ((r.map F).foldl maxI (F a))]? = some p ∧ PySem.W.minOf (-F a, a) (r.map fun x => (-F x, x)) = (-F p, p) := by
  obtain ⟨m1, m2⟩ := max_spec (r.map F) (F a)
  generalize hm : (r.map F).foldl maxI (F a) = m at m1 m2
  have e0 : F a :: r.map F = (a :: r).map F := rfl
  rw [e0] at m1 m2
  have hi : ((a :: r).map F).idxOf m < ((a :: r).map F).length := List.idxOf_lt_length_iff.mpr m1
  have hl : ((a :: r).map F).idxOf m < (a :: r).length := by simpa using hi
  have hp : F (a :: r)[((a :: r).map F).idxOf m] = m := by
    have := List.getElem_idxOf hi
    rw [List.getElem_map] at this
    simpa using this
  refine ⟨(a :: r)[((a :: r).map F).idxOf m], List.getElem?_eq_getElem hl, ?_⟩
  generalize hx : (a :: r)[((a :: r).map F).idxOf m] = p at hp
  obtain ⟨s1, s2⟩ := min_spec (r.map fun x => (-F x, x)) (-F a, a)
  have e1 : ((-F a, a) : K2) :: r.map (fun x => (-F x, x)) = (a :: r).map fun x => (-F x, x) := rfl
  rw [e1] at s1 s2
  obtain ⟨x, hxm, ex⟩ := List.mem_map.mp s1
  have pm : p ∈ a :: r := by rw [← hx]; exact List.getElem_mem hl
  have t1 := s2 _ (List.mem_map.mpr ⟨p, pm, rfl⟩)
  rw [← ex, ltK_iff] at t1
  simp only at t1
  have fx : F x ≤ m := m2 _ (List.mem_map.mpr ⟨x, hxm, rfl⟩)
  have exm : F x = m := by omega
  have xp : x ≤ p := by omega
  have px : p ≤ x := by
    obtain ⟨k, hk, ek⟩ := List.getElem_of_mem hxm
    have hge : ((a :: r).map F).idxOf m ≤ k := by
      have h2 : ((a :: r).map F)[k]'(by simpa using hk) = m := by rw [List.getElem_map, ek]; exact exm
      by_cases c : k < ((a :: r).map F).idxOf m
      · have := List.not_of_lt_findIdx (p := (· == m)) (xs := (a :: r).map F) (i := k) c
        have h3 : ((F a :: r.map F)[k]'(by simpa using hk)) = m := h2
        simp at this
        exact absurd h3 this
      · omega
    by_cases c : ((a :: r).map F).idxOf m = k
    · subst c; rw [hx] at ek; omega
    · have := List.pairwise_iff_getElem.mp hs _ k hl hk (by omega)
      rw [hx, ek] at this; omega
  have : x = p := by omega
  rw [← ex, this]
end Mx

namespace Tx
open PySem PySem.Spec L2 Sn Mx
def I_frL (L : Lay) (S : List Int) (rem : List Rw) (ρ : En) : Prop := ∃ acc s3 s4 s5, Frs (some s3) = true ∧ Frs (some s4) = true ∧ Frs (some s5) = true ∧ ρ = [.v (eL L), .v (.list (S.map .int)), .v (.int acc), s3, s4, s5, .un] ∧ acc + frd S rem = frd S L.rows ∧ ∀ r ∈ rem, smallR r
theorem freed_by_l (n : Nat) (L : Lay) (S : List Int) (hr : ∀ r ∈ L.rows, smallR r) : sem T (n+1) 7 [eL L, .list (S.map .int)] = .ret (.v (.int (frd S L.rows))) [] := by
  rw [sem_at (fd := a_freed_by) rfl]
  simp [runF, startE, a_freed_by, setS_eq]
  refine for_k (fun x => outF _ x = _) L.rows eR (I_frL L S)
    (by simp [eL]) ⟨0, .un, .un, .un, rfl, rfl, rfl, rfl, by omega, hr⟩ ?_ ?_
  · rintro r rem ρ ⟨acc, s3, s4, s5, h3, h4, h5, rfl, hs, hm⟩
    have hb := hm r (List.mem_cons_self ..)
    unfold smallR at hb
    rw [frd_cons] at hs
    simp [asg, eR, setS_eq, h3, h4, h5]
    rw [lc_all (rngI r.1 (r.2.1 + 1)) .int (fun p => .bool (decide (p ∈ S)))]
    · have hg : biD .all [.list ((rngI r.1 (r.2.1 + 1)).map fun p => .bool (decide (p ∈ S)))] = some (.v (.bool (gone S r))) := m_all _ _
      simp [hg]
      cases c : gone S r
      · rw [c, if_neg Bool.false_ne_true] at hs
        simp
        exact ⟨_, _, _, _, rfl, rfl, rfl, rfl, by omega, fun a ha => hm a (List.mem_cons_of_mem _ ha)⟩
      · rw [c, if_pos rfl] at hs
        simp [setS_eq]
        exact ⟨_, _, _, _, rfl, rfl, rfl, rfl, by omega, fun a ha => hm a (List.mem_cons_of_mem _ ha)⟩
    · simp [rngD_eq]
      exact rngOk_k (by omega) (by omega) (by omega) (by omega)
    · simp [freeE_cons]
    · intro a ha
      exact ⟨_, by simp [asg, wipeE, setS_eq]; rfl, by simp [wipeE], by simp [in_li]⟩
  · rintro ρ' ⟨acc, s3, s4, s5, h3, h4, h5, rfl, hs, _⟩
    have : frd S [] = 0 := rfl
    rw [this] at hs
    simp at hs ⊢
    exact hs
/-- those left -/
def lft (L : Lay) (f : List Int) : List Int := (rngI 0 L.c).filter fun p => !decide (p ∈ f)
/-- what is freed with one more -/
def fre1 (L : Lay) (f : List Int) (x : Int) : Int := frd (f ++ [x]) L.rows
def gp (L : Lay) (f : List Int) : Option Int := match lft L f with
  | [] => none
  | a :: r => some (PySem.W.minOf ((-fre1 L f a, a) : K2) (r.map fun x => (-fre1 L f x, x))).2
theorem min_pairs (q : K2) (qs : List K2) (h : qs.length ≤ 1000) : biD .minT [.list ((q :: qs).map eK)] = some (.v (eK (PySem.W.minOf q qs))) := by
  have h1 : alikeB ((q :: qs).map eK) = true := by
    unfold alikeB
    simp only [List.all_eq_true, List.mem_map]
    rintro _ ⟨a, _, rfl⟩ _ ⟨b, _, rfl⟩
    exact alike_eK a b
  have h2 : nonN ((q :: qs).map eK) = true := by
    unfold nonN
    simp only [List.all_eq_true, List.mem_map]
    rintro _ ⟨a, _, rfl⟩
    rfl
  have h3 : PyData.depth (.list ((q :: qs).map eK)) ≤ 60 := by
    have := depth_eK (q :: qs)
    rw [PyData.depth]; omega
  show (if (alikeB ((q :: qs).map eK) && (nonN ((q :: qs).map eK) && decide (PyData.depth (.list ((q :: qs).map eK)) ≤ 60))) = true then some (R.v (PySem.W.minD (eK q) (qs.map eK))) else none) = _
  rw [h1, h2, decide_eq_true h3, show (true && (true && true)) = true from rfl, if_pos rfl]
  congr 2
  exact PySem.W.minD_map q qs
end Tx

namespace Tx
open PySem PySem.Spec L2 Sn Mx
def grd (L : Lay) : Nat → List Int
  | 0 => []
  | n + 1 => grd L n ++ (match gp L (grd L n) with | some p => [p] | none => [])
theorem lft_nat {L : Lay} (h : 0 ≤ L.c) (f : List Int) : lft L f = leftN f L.c.toNat := by
  unfold lft
  rw [← leftN_eq, show ((L.c.toNat : Nat) : Int) = L.c by omega]
theorem lft_asc (L : Lay) (f : List Int) : (lft L f).Pairwise fun x y => x < y := (rngI_asc _ _).filter _
/-- the next one: where it stands among those left -/
theorem gp_at {L : Lay} {f : List Int} (h : lft L f ≠ []) : ∃ (a : Int) (r : List Int) (p : Int), lft L f = a :: r ∧ gp L f = some p ∧
    (lft L f)[((lft L f).map (fre1 L f)).idxOf ((r.map (fre1 L f)).foldl maxI (fre1 L f a))]? = some p ∧ PySem.W.minOf ((-fre1 L f a, a) : K2) (r.map fun x => (-fre1 L f x, x)) = (-fre1 L f p, p) := by
  cases q : lft L f with
  | nil => exact absurd q h
  | cons a r =>
    obtain ⟨p, e1, e2⟩ := pick_first (fre1 L f) (a := a) (r := r) (by rw [← q]; exact lft_asc L f)
    refine ⟨a, r, p, rfl, ?_, e1, e2⟩
    unfold gp
    rw [q]
    simp only [e2]
theorem grd_left {L : Lay} (h0 : 0 ≤ L.c) : ∀ j : Nat, (j : Int) ≤ L.c → (lft L (grd L j)).length = L.c.toNat - j
  | 0, _ => by
    unfold lft grd
    rw [List.filter_eq_self.mpr (by simp), rng_length]; omega
  | j + 1, hj => by
    have ih := grd_left h0 j (by omega)
    have hne : lft L (grd L j) ≠ [] := fun e => by rw [e] at ih; simp at ih; omega
    obtain ⟨a, r, p, e1, e2, e3, e4⟩ := gp_at hne
    rw [lft_nat h0] at e3
    obtain ⟨q, rfl, q1, q2, q3⟩ := left_rank e3
    have e : grd L (j + 1) = grd L j ++ [(q : Int)] := by rw [grd, e2]
    rw [e, lft_nat h0, left_then q2 _ q1, List.length_eraseIdx_of_lt (by rw [len_leftN]; exact (rank_lt q2 _).mpr q1), ← lft_nat h0, ih]
    omega
def srtI (l : List Int) : List Int := l.mergeSort fun a b => PySem.W.dataLe false id (.int a) (.int b)
theorem sort_ints (l : List Int) : biD .sorted [.list (l.map .int)] = some (.nw (.l ((srtI l).map .int))) := by
  have h1 : alikeB (l.map .int) = true := by
    unfold alikeB
    simp only [List.all_eq_true, List.mem_map]
    rintro _ ⟨a, _, rfl⟩ _ ⟨b, _, rfl⟩
    simp [PySem.W.alike]
  have h2 : sortB (l.map .int) = true := by
    unfold sortB
    rw [Bool.or_eq_true, Bool.or_eq_true]
    refine .inr (.inl ?_)
    simp only [List.all_eq_true, List.mem_map]
    rintro _ ⟨a, _, rfl⟩
    rfl
  have h3 : PyData.depth (.list (l.map .int)) ≤ 60 := by rw [PyData.depth, depth_ints]; omega
  show (if (alikeB (l.map .int) && (sortB (l.map .int) && decide (PyData.depth (.list (l.map .int)) ≤ 60))) = true then some (R.nw (.l (sortD (l.map .int)))) else none) = _
  rw [h1, h2, decide_eq_true h3, show (true && (true && true)) = true from rfl, if_pos rfl]
  unfold sortD srtI
  rw [List.map_mergeSort (r := fun a b => PySem.W.dataLe false id (.int a) (.int b)) (s := PySem.W.dataLe false id) (f := PyData.int) fun a _ b _ => rfl]
theorem rows_greedy (n : Nat) {L : Lay} (hL : WL L) (f : List Int) (hf : f.length ≤ 100) {a1 a3 a4 : Sl} :
    evE (sem T (n+1)) (.lc (.tup (.cons (.neg (.call 7 (.cons (.var 0) (.cons (.bin .add (.var 2) (.lst (.cons (.var 5) .nil))) .nil)))) (.cons (.var 5) .nil))) (.nm 5) (.rng (.lit (.int 0)) (.ix (.var 0) (.lit (.int 0)))) (.cmp (.var 5) (.one .notIn (.var 2))) [5])
      [.v (eL L), a1, .ow false (.l (f.map .int)), a3, a4, .un] = .ok (.nw (.l (((lft L f).map fun x => ((-fre1 L f x, x) : K2)).map eK))) [.v (eL L), a1, .ow false (.l (f.map .int)), a3, a4, .un] := by
  have c0 := hL.c0
  have c1 := hL.c1
  have e0 : ixD (eL L) (.int 0) = some (.int L.c) := by simp [eL]
  have rk := rngOk_k (a := 0) (b := L.c) (by omega) (by omega) (by omega) (by omega)
  rw [lc_map (rngI 0 L.c) .int (fun p => !decide (p ∈ f)) (fun x => eK (-fre1 L f x, x))]
  · rw [List.map_map]; rfl
  · simp [e0, rk, rngD_eq]
  · simp [freeE_cons]
  · intro x hx
    have ad : binD .add (.list (f.map .int)) (.list [.int x]) = some (.nw (.l ((f ++ [x]).map .int))) := by
      show (if (f.map PyData.int).length + [PyData.int x].length ≤ sizeLine then some (R.nw (.l (f.map .int ++ [.int x]))) else none) = _
      rw [if_pos (by rw [List.length_map]; simp; unfold sizeLine; omega)]; simp
    have fr := freed_by_l n L (f ++ [x]) (lay_small (lay_ok hL))
    have ek : PyData.tuple [.int (-fre1 L f x), .int x] = eK (-fre1 L f x, x) := rfl
    have ef : frd (f ++ [x]) L.rows = fre1 L f x := rfl
    rw [ef] at fr
    refine ⟨_, by simp [asg, wipeE, setS_eq]; rfl, by simp [wipeE], by simp [notIn_li], fun _ => ?_⟩
    simp only [e_tup, es_cons, es_nil, e_neg, e_call, e_bin, e_lst, e_var]
    simp [ad, sizeLine]
    simp at fr
    simp [fr, ek]
end Tx

namespace Tx
open PySem PySem.Spec L2 Sn Mx
theorem number_ok (n : Nat) {k : Int} (h0 : 0 ≤ k) (h1 : k ≤ 10) : sem T (n+2) 86 [.int k] = .ret (.v .none) [] := by
  have e := is_integer_any n (d := .int k) 0 10 rfl
  rw [isI_int, show inB k 0 10 = true by unfold inB; simp; omega] at e
  rw [sem_at (fd := a_require_number) rfl]
  simp [runF, startE, a_require_number, e]
theorem grd_len (L : Lay) : ∀ j : Nat, (grd L j).length ≤ j
  | 0 => Nat.le_refl _
  | j + 1 => by
    have := grd_len L j
    rw [grd, List.length_append]
    split <;> simp <;> omega
def I_grd (L : Lay) (K : Int) (rem : List Int) (ρ : En) : Prop := ∃ (j : Nat) (s3 s4 : Sl), ρ = [.v (eL L), .v (.int K), .ow false (.l ((grd L j).map .int)), s3, s4, .un] ∧ Frs (some s3) = true ∧ Frs (some s4) = true ∧ j + rem.length = K.toNat
theorem greedy_ok (n : Nat) {L : Lay} (hL : WL L) {K : Int} (hK : 0 ≤ K) (hk : K ≤ L.c) : sem T (n+5) 95 [eL L, .int K] = .ret (.v (eT (srtI (grd L K.toNat)))) [] := by
  have c0 := hL.c0
  have c1 := hL.c1
  have e0 : ixD (eL L) (.int 0) = some (.int L.c) := by simp [eL]
  have r1 := ok_require_layout n L (lay_ok hL)
  have r2 := number_ok (n+2) (k := K) (by omega) (by omega)
  have rk := rngOk_k (a := 0) (b := K) (by omega) (by omega) (by omega) (by omega)
  have ng : ¬ (L.c < K) := by omega
  rw [sem_at (fd := a_greedy_set) rfl]
  show outF a_greedy_set (evS (sem T (n+4)) a_greedy_set.body [.v (eL L), .v (.int K), .un, .un, .un, .un]) = _
  unfold a_greedy_set
  dsimp only
  rw [seq_nx (ρ' := [.v (eL L), .v (.int K), .un, .un, .un, .un]) (by simp [r1]), seq_nx (ρ' := [.v (eL L), .v (.int K), .un, .un, .un, .un]) (by simp [r2]), seq_nx (ρ' := [.v (eL L), .v (.int K), .un, .un, .un, .un]) (by simp [e0, ng]), seq_nx (ρ' := [.v (eL L), .v (.int K), .ow false (.l []), .un, .un, .un]) (by simp [setS_eq]), s_seq]
  refine for_k (fun x => outF _ x = .ret (.v (eT (srtI (grd L K.toNat)))) []) (rngI 0 K) PyData.int (I_grd L K) (by simp [rk, rngD_eq]) (⟨(0 : Nat), .un, .un, by simp [grd], rfl, rfl, by rw [rng_length]; omega⟩ : I_grd L K (rngI 0 K) _) ?_ ?_
  · rintro t rem ρ ⟨j, s3, s4, rfl, h3, h4, hj⟩
    simp only [List.length_cons] at hj
    have hl := grd_left c0 j (by omega)
    have hne : lft L (grd L j) ≠ [] := fun e => by rw [e] at hl; simp at hl; omega
    obtain ⟨a, r, p, q1, q2, q3, q4⟩ := gp_at hne
    have gl := grd_len L j
    have rg := rows_greedy (n+3) hL (grd L j) (by omega) (a1 := .v (.int K)) (a3 := .v (.int t)) (a4 := s4)
    have rl : r.length ≤ 1000 := by rw [q1] at hl; simp at hl; omega
    have mp := min_pairs ((-fre1 L (grd L j) a, a) : K2) (r.map fun x => (-fre1 L (grd L j) x, x)) (by rw [List.length_map]; exact rl)
    rw [q4] at mp
    have lr : (lft L (grd L j)).map (fun x => ((-fre1 L (grd L j) x, x) : K2)) = (-fre1 L (grd L j) a, a) :: r.map fun x => (-fre1 L (grd L j) x, x) := by rw [q1]; rfl
    rw [lr] at rg
    generalize ((-fre1 L (grd L j) a, a) : K2) :: r.map (fun x => (-fre1 L (grd L j) x, x)) = Q at rg mp
    have i1 : ixD (eK (-fre1 L (grd L j) p, p)) (.int 1) = some (.int p) := by unfold eK; exact ix_t1 _ _ _
    have eg : grd L (j + 1) = grd L j ++ [p] := by rw [grd, q2]
    have hs : (grd L j).length < sizeLine := by unfold sizeLine; omega
    refine ⟨[.v (eL L), .v (.int K), .ow false (.l ((grd L j).map .int)), .v (.int t), s4, .un], by simp [asg, setS_eq, h3], ?_⟩
    refine ⟨[.v (eL L), .v (.int K), .ow false (.l ((grd L (j + 1)).map .int)), .v (.int t), .ow false (.l (Q.map eK)), .un], go_seq (ρ' := [.v (eL L), .v (.int K), .ow false (.l ((grd L j).map .int)), .v (.int t), .ow false (.l (Q.map eK)), .un]) (by rw [s_set, rg]; simp [setS_eq, h4]) (go_seq (ρ' := [.v (eL L), .v (.int K), .ow false (.l ((grd L (j + 1)).map .int)), .v (.int t), .ow false (.l (Q.map eK)), .un]) (by rw [eg]; simp [mp, i1, hs]) rfl), j + 1, _, _, rfl, rfl, rfl, by omega⟩
  · rintro ρ' ⟨j, s3, s4, rfl, h3, h4, hj⟩
    have : K.toNat = j := by simpa using hj.symm
    rw [this]
    rw [sqF_nx]
    have st := sort_ints (grd L j)
    have tt : PyData.tuple ((srtI (grd L j)).map .int) = eT (srtI (grd L j)) := rfl
    have sl := srtR_l (i := 2) (f := false) (xs := (grd L j).map .int) (ρ := [.v (eL L), .v (.int K), .ow false (.l ((grd L j).map .int)), s3, s4, .un]) rfl
    simp [sl, st, tt]
theorem greedy_none (n : Nat) {L : Lay} (hL : WL L) {k : Int} (h0 : L.c < k) (h1 : k ≤ 10) : sem T (n+5) 95 [eL L, .int k] = .ret (.v .none) [] := by
  have c0 := hL.c0
  have e0 : ixD (eL L) (.int 0) = some (.int L.c) := by simp [eL]
  have r1 := ok_require_layout n L (lay_ok hL)
  have r2 := number_ok (n+2) (k := k) (by omega) (by omega)
  rw [sem_at (fd := a_greedy_set) rfl]
  simp [runF, startE, a_greedy_set, r1, r2, e0, h0]
end Tx

namespace Tx
open PySem PySem.Spec L2 Sn Mx
theorem red_cN {c : Int} {f : List Int} (h0 : 0 ≤ c) (hc : c ∉ f) : ((leftOf f c).length : Int) - 1 = NN f c.toNat := by
  rw [left_len f h0, NN, if_neg (by rw [show ((c.toNat : Nat) : Int) = c by omega]; exact hc)]; omega
theorem red_more {L : Lay} (h : WL L) {f : List Int} (hw : WL (red L f)) (hf : ∀ x ∈ f, x < L.c) {p : Nat} (hp : (p : Int) ∉ f) (hc : (p : Int) < L.c) :
    red (red L f) [((NN f p : Nat) : Int)] = red L (f ++ [(p : Int)]) ∧ VS (red L f).c [((NN f p : Nat) : Int)] ∧ WL (red L (f ++ [(p : Int)])) ∧
    frd [((NN f p : Nat) : Int)] (red L f).rows = frd (f ++ [(p : Int)]) L.rows - frd f L.rows := by
  have c0 := h.c0
  have e1 : (red L f).c = NN f L.c.toNat := red_cN c0 fun hm => by have := hf _ hm; omega
  have lt : NN f p < NN f L.c.toNat := (rank_lt hp _).mpr (by omega)
  have vs : VS (red L f).c [((NN f p : Nat) : Int)] := VS.one (by omega) (by rw [e1]; omega)
  have hk : ∀ r ∈ L.rows, 0 ≤ r.1 ∧ r.1 ≤ r.2.1 := fun r hr => ⟨(h.good r hr).1, (h.good r hr).2.1⟩
  have hk2 : ∀ r ∈ redRows f L.rows, 0 ≤ r.1 ∧ r.1 ≤ r.2.1 := fun r hr => ⟨(hw.good r hr).1, (hw.good r hr).2.1⟩
  have er : redRows [((NN f p : Nat) : Int)] (red L f).rows = redRows (f ++ [(p : Int)]) L.rows := red_then hp L.rows
  have ec : ((leftOf [((NN f p : Nat) : Int)] (red L f).c).length : Int) - 1 = ((leftOf (f ++ [(p : Int)]) L.c).length : Int) - 1 := by
    have h2 : L.c ∉ f ++ [(p : Int)] := fun hm => by
      rcases List.mem_append.mp hm with hm | hm
      · have := hf _ hm; omega
      · have := List.mem_singleton.mp hm; omega
    rw [red_cN c0 h2, red_cN hw.c0 (fun hm => by have := List.mem_singleton.mp hm; rw [e1] at this; omega), e1]
    have := NN_then hp L.c.toNat
    rw [show ((NN f L.c.toNat : Nat) : Int).toNat = NN f L.c.toNat by omega, this]
  have e : red (red L f) [((NN f p : Nat) : Int)] = red L (f ++ [(p : Int)]) := by
    show (⟨((leftOf [((NN f p : Nat) : Int)] (red L f).c).length : Int) - 1, redRows [((NN f p : Nat) : Int)] (red L f).rows⟩ : Lay) = ⟨((leftOf (f ++ [(p : Int)]) L.c).length : Int) - 1, redRows (f ++ [(p : Int)]) L.rows⟩
    rw [ec, er]
  refine ⟨e, vs, by rw [← e]; exact hw.red vs, ?_⟩
  have := frd_then hp hk hk2
  show frd _ (redRows f L.rows) = _
  omega
end Tx

namespace Tx
open PySem PySem.Spec L2 Sn Mx
theorem max_shift (K : Int) : ∀ (l : List Int) (a : Int), (l.map fun x => x - K).foldl maxI (a - K) = l.foldl maxI a - K
  | [], a => rfl
  | b :: l, a => by
    rw [List.map_cons, List.foldl_cons, List.foldl_cons, ← max_shift K l]
    congr 1
    unfold maxI
    split <;> split <;> omega
theorem idx_shift (K m : Int) : ∀ l : List Int, (l.map fun x => x - K).idxOf (m - K) = l.idxOf m
  | [] => rfl
  | b :: l => by
    rw [List.map_cons, List.idxOf_cons, List.idxOf_cons, idx_shift K m l]
    by_cases h : b = m
    · subst h; simp
    · have : ¬ b - K = m - K := by omega
      have e1 : (b == m) = false := by simpa using h
      have e2 : (b - K == m - K) = false := by simpa using this
      rw [e1, e2]
theorem fold_mem (l : List Int) (a : Int) : l.foldl maxI a ∈ a :: l := (max_spec l a).1
theorem max_ints (a : Int) (l : List Int) : biD .max1 [.list ((a :: l).map .int)] = some (.v (.int (l.foldl maxI a))) := by
  have := m_ints (fun i : Int => i) (a :: l)
  show (intsD _).bind _ = _
  rw [this]
  simp [foldI]
end Tx

namespace Tx
open PySem PySem.Spec L2 Sn Mx
theorem grd_mem {L : Lay} (h0 : 0 ≤ L.c) : ∀ j : Nat, (j : Int) ≤ L.c → ∀ x ∈ grd L j, x < L.c
  | 0, _, x, hx => by cases hx
  | j + 1, hj, x, hx => by
    have hl := grd_left h0 j (by omega)
    have hne : lft L (grd L j) ≠ [] := fun e => by rw [e] at hl; simp at hl; omega
    obtain ⟨a, r, p, e1, e2, e3, e4⟩ := gp_at hne
    rw [grd, e2] at hx
    rcases List.mem_append.mp hx with h | h
    · exact grd_mem h0 j (by omega) x h
    · have hx : x = p := by simpa using h
      subst hx
      have := List.mem_of_getElem? e3
      exact (mem_rngI.mp (List.mem_filter.mp this).1).2
/-- the sizes that the law works out are those with one more, less what is gone -/
theorem sizes_eq {L : Lay} (h : WL L) {f : List Int} (hw : WL (red L f)) (hf : ∀ x ∈ f, x < L.c) : ((rngI 0 (red L f).c).map fun i => frd [i] (red L f).rows) = ((lft L f).map (fre1 L f)).map fun x => x - frd f L.rows := by
  have c0 := h.c0
  have e1 : (red L f).c = NN f L.c.toNat := red_cN c0 fun hm => by have := hf _ hm; omega
  have hll : (lft L f).length = NN f L.c.toNat := by rw [lft_nat c0, len_leftN]
  refine List.ext_getElem? fun m => ?_
  by_cases c : m < NN f L.c.toNat
  · have hm : m < (lft L f).length := by omega
    obtain ⟨v, g⟩ : ∃ v, (lft L f)[m]? = some v := ⟨_, List.getElem?_eq_getElem hm⟩
    have g2 := g
    rw [lft_nat c0] at g2
    obtain ⟨p, ep, p1, p2, p3⟩ := left_rank g2
    have em : (rngI 0 (red L f).c)[m]? = some (m : Int) := by
      unfold rngI
      rw [List.getElem?_map, List.getElem?_range (by omega)]
      simp
    have rm := (red_more h hw hf p2 (by omega)).2.2.2
    rw [p3] at rm
    rw [List.getElem?_map, em, List.getElem?_map, List.getElem?_map, lft_nat c0, g2]
    simp only [Option.map_some]
    rw [rm, ep]; rfl
  · rw [List.getElem?_eq_none (by rw [List.length_map, rng_length]; omega), List.getElem?_eq_none (by rw [List.length_map, List.length_map]; omega)]
end Tx

namespace Tx
open PySem PySem.Spec L2 Sn Mx
def E14 (L : Lay) (K : Int) (j : Nat) (s2 s5 s6 : Sl) : En := [.v (eL (red L (grd L j))), .v (.int K), s2, .ow false (.l ((lft L (grd L j)).map .int)), .ow false (.l ((grd L j).map .int)), s5, s6, .un]
theorem turn14 (n : Nat) {L : Lay} (hL : WL L) {K : Int} {j : Nat} (hj : ((j + 1 : Nat) : Int) ≤ L.c) (hw : WL (red L (grd L j))) {s2 s5 s6 : Sl} (h5 : Frs (some s5) = true) (h6 : Frs (some s6) = true) :
    WL (red L (grd L (j + 1))) ∧ ∃ s5' s6', Frs (some s5') = true ∧ Frs (some s6') = true ∧ evS (sem T (n+2)) (.seq (.set 5 (.lc (.call 52 (.cons (.var 0) (.cons (.tup (.cons (.var 7) .nil)) .nil))) (.nm 7) (.rng (.lit (.int 0)) (.ix (.var 0) (.lit (.int 0)))) (.lit (.bool true)) [7]))
    (.seq (.set 6 (.index (.var 5) (.bi .max1 (.cons (.var 5) .nil))))
    (.seq (.ex (.app 4 (.pop 3 (.var 6))))
    (.seq (.set 0 (.call 54 (.cons (.var 0) (.cons (.tup (.cons (.var 6) .nil)) .nil))))
    .skip)))) (E14 L K j s2 s5 s6) = .ok .nx (E14 L K (j + 1) s2 s5' s6') := by
  have c0 := hL.c0
  have c1 := hL.c1
  have hl := grd_left c0 j (by omega)
  have hne : lft L (grd L j) ≠ [] := fun e => by rw [e] at hl; simp at hl; omega
  obtain ⟨a, r, p, q1, q2, q3, q4⟩ := gp_at hne
  have hf := grd_mem c0 j (by omega)
  have q3' := q3
  rw [lft_nat c0] at q3'
  obtain ⟨q, ep, p1, p2, p3⟩ := left_rank q3'
  rw [← lft_nat c0] at p3
  have rm := red_more hL hw hf p2 (by omega)
  have eg : grd L (j + 1) = grd L j ++ [(q : Int)] := by rw [grd, q2, ep]
  rw [← eg] at rm
  obtain ⟨m1, m2, m3, m4⟩ := rm
  have ll : lft L (grd L (j + 1)) = (lft L (grd L j)).eraseIdx (NN (grd L j) q) := by rw [eg, lft_nat c0, left_then p2 _ p1, ← lft_nat c0]
  refine ⟨m3, ?_⟩
  have hw0 := hw.c0
  have hw1 := hw.c1
  have e0 : ixD (eL (red L (grd L j))) (.int 0) = some (.int (red L (grd L j)).c) := by simp [eL]
  have rk := rngOk_k (a := 0) (b := (red L (grd L j)).c) (by omega) (by omega) (by omega) (by omega)
  have sz := sizes_eq hL hw hf
  rw [q1] at sz
  have ix0 : idxD (.list ((((a :: r).map (fre1 L (grd L j))).map fun x => x - frd (grd L j) L.rows).map .int)) (.int ((r.map (fre1 L (grd L j))).foldl maxI (fre1 L (grd L j) a) - frd (grd L j) L.rows)) = some (NN (grd L j) q) := by
    have hm : (r.map (fre1 L (grd L j))).foldl maxI (fre1 L (grd L j) a) - frd (grd L j) L.rows ∈ (((a :: r).map (fre1 L (grd L j))).map fun x => x - frd (grd L j) L.rows) :=
      List.mem_map.mpr ⟨_, (fold_mem (r.map (fre1 L (grd L j))) (fre1 L (grd L j) a) : _ ∈ (a :: r).map (fre1 L (grd L j))), rfl⟩
    rw [idxD_ints hm, idx_shift, p3, q1]
  have mx : biD .max1 [.list ((((a :: r).map (fre1 L (grd L j))).map fun x => x - frd (grd L j) L.rows).map .int)] = some (.v (.int ((r.map (fre1 L (grd L j))).foldl maxI (fre1 L (grd L j) a) - frd (grd L j) L.rows))) := by
    rw [← max_shift]
    exact max_ints _ _
  have st1 : evE (sem T (n+2)) (.lc (.call 52 (.cons (.var 0) (.cons (.tup (.cons (.var 7) .nil)) .nil))) (.nm 7) (.rng (.lit (.int 0)) (.ix (.var 0) (.lit (.int 0)))) (.lit (.bool true)) [7]) (E14 L K j s2 s5 s6) =
      .ok (.nw (.l ((((a :: r).map (fre1 L (grd L j))).map fun x => x - frd (grd L j) L.rows).map .int))) (E14 L K j s2 s5 s6) := by
    rw [← sz]
    unfold E14
    rw [lc_all (rngI 0 (red L (grd L j)).c) .int (fun i => .int (frd [i] (red L (grd L j)).rows))]
    · rw [List.map_map]; rfl
    · simp [e0, rk, rngD_eq]
    · simp [freeE_cons]
    · intro i hi
      have f : sem T (n+2) 52 [eL (red L (grd L j)), .tuple [.int i]] = .ret (.v (.int (frd [i] (red L (grd L j)).rows))) [] := by
        have h := lawfreed_ok (n+1) (red L (grd L j)) [i] (lay_small (lay_ok hw))
        have et : eT [i] = .tuple [.int i] := rfl
        rw [et] at h
        exact h
      exact ⟨_, by simp [asg, wipeE, setS_eq]; rfl, by simp [wipeE], by simp [f, sizeLine]⟩
  generalize (((a :: r).map (fre1 L (grd L j))).map fun x => x - frd (grd L j) L.rows) = Z at st1 mx ix0
  generalize (r.map (fre1 L (grd L j))).foldl maxI (fre1 L (grd L j) a) - frd (grd L j) L.rows = M at mx ix0
  have gl := grd_len L j
  have hs : (grd L j).length < sizeLine := by unfold sizeLine; omega
  have hq : NN (grd L j) q < (lft L (grd L j)).length := by rw [lft_nat c0, len_leftN]; exact (rank_lt p2 _).mpr p1
  have hd : ((lft L (grd L j)).map PyData.int)[NN (grd L j) q]? = some (.int q) := by rw [List.getElem?_map, p3, q3, ep]; rfl
  have hix : ixN ((lft L (grd L j)).map PyData.int).length ((NN (grd L j) q : Nat) : Int) = some (NN (grd L j) q) := by
    unfold ixN; rw [List.length_map, if_pos (by omega), if_pos (by omega)]; rfl
  have epop : ∀ ρ : En, poR 3 (.v (.int ((NN (grd L j) q : Nat) : Int))) (some (.ow false (.l ((lft L (grd L j)).map .int)))) ρ = .ok (.v (.int q)) (ρ.set 3 (.ow false (.l ((lft L (grd L (j + 1))).map .int)))) := fun ρ => by rw [poR_ow hix hd, erase_map, ll]
  have f2 : sem T (n+2) 54 [eL (red L (grd L j)), .tuple [.int ((NN (grd L j) q : Nat) : Int)]] = .ret (.v (eL (red L (grd L (j + 1))))) [] := by
    have h := lawafter_ok n hw m2
    have et : eT [((NN (grd L j) q : Nat) : Int)] = .tuple [.int ((NN (grd L j) q : Nat) : Int)] := rfl
    rw [m1, et] at h
    exact h
  refine ⟨.ow false (.l (Z.map .int)), .v (.int ((NN (grd L j) q : Nat) : Int)), rfl, rfl, ?_⟩
  refine go_seq (ρ' := E14 L K j s2 (.ow false (.l (Z.map .int))) s6) (by rw [s_set, st1]; unfold E14; simp [setS_eq, h5]) ?_
  refine go_seq (ρ' := E14 L K j s2 (.ow false (.l (Z.map .int))) (.v (.int ((NN (grd L j) q : Nat) : Int)))) (by unfold E14; simp [mx, ix0, setS_eq, h6]) ?_
  unfold E14
  generalize hG : NN (grd L j) q = G at *
  refine go_seq (ρ' := [.v (eL (red L (grd L j))), .v (.int K), s2, .ow false (.l ((lft L (grd L (j + 1))).map .int)), .ow false (.l ((grd L (j + 1)).map .int)), .ow false (.l (Z.map .int)), .v (.int (G : Int)), .un]) (by simp [epop, hs, eg]) ?_
  exact go_seq (by simp [f2, setS_eq, sizeLine] <;> rfl) rfl
end Tx

namespace Tx
open PySem PySem.Spec L2 Sn Mx
def I_lg (L : Lay) (K : Int) (rem : List Int) (ρ : En) : Prop := ∃ (j : Nat) (s2 s5 s6 : Sl), ρ = E14 L K j s2 s5 s6 ∧ Frs (some s2) = true ∧ Frs (some s5) = true ∧ Frs (some s6) = true ∧ WL (red L (grd L j)) ∧ j + rem.length = K.toNat
theorem lawgreedy_ok (n : Nat) {L : Lay} (hL : WL L) {K : Int} (hK : 0 ≤ K) (hk : K ≤ L.c) : sem T (n+3) 96 [eL L, .int K] = .ret (.v (eT (srtI (grd L K.toNat)))) [] := by
  have c0 := hL.c0
  have c1 := hL.c1
  have e0 : ixD (eL L) (.int 0) = some (.int L.c) := by simp [eL]
  have rk := rngOk_k (a := 0) (b := K) (by omega) (by omega) (by omega) (by omega)
  have rk2 := rngOk_k (a := 0) (b := L.c) (by omega) (by omega) (by omega) (by omega)
  have g0 : grd L 0 = [] := rfl
  have rn : red L (grd L 0) = L := red_none hL
  have l0 : lft L (grd L 0) = rngI 0 L.c := List.filter_eq_self.mpr (by simp [grd])
  rw [sem_at (fd := a__law_greedy) rfl]
  show outF a__law_greedy (evS (sem T (n+2)) a__law_greedy.body [.v (eL L), .v (.int K), .un, .un, .un, .un, .un, .un]) = _
  unfold a__law_greedy
  dsimp only
  rw [seq_nx (ρ' := E14 L K 0 .un .un .un) (by unfold E14; rw [rn, l0, g0]; simp [e0, rk2, rngD_eq, setS_eq, sizeLine]), s_seq]
  refine for_k (fun x => outF _ x = .ret (.v (eT (srtI (grd L K.toNat)))) []) (rngI 0 K) PyData.int (I_lg L K) (by unfold E14; simp [rk, rngD_eq]) ⟨0, .un, .un, .un, rfl, rfl, rfl, rfl, by rw [rn]; exact hL, by rw [rng_length]; omega⟩ ?_ ?_
  · rintro t rem ρ ⟨j, s2, s5, s6, rfl, h2, h5, h6, hw, hj⟩
    simp only [List.length_cons] at hj
    obtain ⟨w', s5', s6', h5', h6', e⟩ := turn14 n hL (K := K) (j := j) (by omega) hw (s2 := .v (.int t)) h5 h6
    exact ⟨E14 L K j (.v (.int t)) s5 s6, by unfold E14; simp [asg, setS_eq, h2], _, e, j + 1, _, _, _, rfl, rfl, h5', h6', w', by omega⟩
  · rintro ρ' ⟨j, s2, s5, s6, rfl, h2, h5, h6, hw, hj⟩
    have : K.toNat = j := by simpa using hj.symm
    rw [this, sqF_nx]
    have st := sort_ints (grd L j)
    have tt : PyData.tuple ((srtI (grd L j)).map .int) = eT (srtI (grd L j)) := rfl
    have sl := srtR_l (i := 4) (f := false) (xs := (grd L j).map .int) (ρ := E14 L K j s2 s5 s6) rfl
    unfold E14 at sl ⊢
    simp [sl, st, tt]
end Tx

namespace Tx
open PySem PySem.Spec L2 Sn Mx
abbrev BS := Int × List Int
def upd (L : Lay) (o : Option BS) (P : List Int) : Option BS := match o with
  | none => some (frd P L.rows, P)
  | some q => if q.1 < frd P L.rows then some (frd P L.rows, P) else some q
def bst (L : Lay) (k : Nat) (l : List (List Int)) : Option BS := (l.filter fun P => decide (P.length = k)).foldl (upd L) none
def boeS (L : Lay) (f : List BS) (P : List Int) : List BS := if P.length = f.length then f ++ [(frd P L.rows, P)] else if ((f.getLast?.map (·.1)).getD 0) < frd P L.rows then f.set (f.length - 1) (frd P L.rows, P) else f
theorem bst_snoc (L : Lay) (k : Nat) (l : List (List Int)) (P : List Int) : bst L k (l ++ [P]) = if P.length = k then upd L (bst L k l) P else bst L k l := by
  unfold bst
  rw [List.filter_append, List.foldl_append]
  by_cases h : P.length = k
  · rw [if_pos h, List.filter_cons_of_pos (by simpa using h)]; rfl
  · rw [if_neg h, List.filter_cons_of_neg (by simpa using h)]; rfl
theorem upd_some (L : Lay) (o : Option BS) (P : List Int) : (upd L o P).isSome = true := by
  cases o with
  | none => rfl
  | some q => unfold upd; dsimp only; split <;> rfl
theorem bst_some (L : Lay) (k : Nat) (l : List (List Int)) : (bst L k l).isSome = true ↔ ∃ P ∈ l, P.length = k := by
  unfold bst
  have h : ∀ (m : List (List Int)) (o : Option BS), (m.foldl (upd L) o).isSome = true ↔ (o.isSome = true ∨ m ≠ []) := by
    intro m
    induction m with
    | nil => intro o; simp
    | cons P m ih => intro o; rw [List.foldl_cons, ih]; simp [upd_some]
  rw [h]
  simp only [Option.isSome_none, Bool.false_eq_true, false_or]
  constructor
  · intro hn
    obtain ⟨P, hP⟩ := List.exists_mem_of_ne_nil _ hn
    have := List.mem_filter.mp hP
    exact ⟨P, this.1, by simpa using this.2⟩
  · rintro ⟨P, hP, e⟩ hn
    have : P ∈ l.filter (fun P => decide (P.length = k)) := List.mem_filter.mpr ⟨hP, by simpa using e⟩
    rw [hn] at this; cases this
theorem bst_spec (L : Lay) (k : Nat) : ∀ (l : List (List Int)) (q : BS), bst L k l = some q → q.2 ∈ l ∧ q.2.length = k ∧ q.1 = frd q.2 L.rows ∧ ∀ P ∈ l, P.length = k → frd P L.rows ≤ q.1 := by
  have h : ∀ (m : List (List Int)) (o : Option BS) (q : BS), m.foldl (upd L) o = some q → (o = some q ∨ (q.2 ∈ m ∧ q.1 = frd q.2 L.rows)) ∧ (∀ P ∈ m, frd P L.rows ≤ q.1) ∧ ∀ z, o = some z → z.1 ≤ q.1 := by
    intro m
    induction m with
    | nil => intro o q e; simp at e; subst e; simp
    | cons P m ih =>
      intro o q e
      rw [List.foldl_cons] at e
      obtain ⟨h1, h2, h3⟩ := ih _ q e
      cases o with
      | none =>
        have := h3 (frd P L.rows, P) rfl
        refine ⟨?_, ?_, fun z hz => by cases hz⟩
        · rcases h1 with h1 | h1
          · have h1 : (frd P L.rows, P) = q := Option.some.inj h1
            right; rw [← h1]; exact ⟨List.mem_cons_self .., rfl⟩
          · exact .inr ⟨List.mem_cons_of_mem _ h1.1, h1.2⟩
        · intro x hx
          rcases List.mem_cons.mp hx with rfl | hx
          · exact this
          · exact h2 x hx
      | some z =>
        unfold upd at h1 h3
        dsimp only at h1 h3
        by_cases c : z.1 < frd P L.rows
        · rw [if_pos c] at h1 h3
          have := h3 (frd P L.rows, P) rfl
          dsimp only at this
          refine ⟨?_, ?_, fun z' hz => by cases hz; omega⟩
          · rcases h1 with h1 | h1
            · have h1 : (frd P L.rows, P) = q := Option.some.inj h1
              right; rw [← h1]; exact ⟨List.mem_cons_self .., rfl⟩
            · exact .inr ⟨List.mem_cons_of_mem _ h1.1, h1.2⟩
          · intro x hx
            rcases List.mem_cons.mp hx with rfl | hx
            · exact this
            · exact h2 x hx
        · rw [if_neg c] at h1 h3
          have := h3 z rfl
          refine ⟨?_, ?_, fun z' hz => by cases hz; exact this⟩
          · rcases h1 with h1 | h1
            · exact .inl h1
            · exact .inr ⟨List.mem_cons_of_mem _ h1.1, h1.2⟩
          · intro x hx
            rcases List.mem_cons.mp hx with rfl | hx
            · omega
            · exact h2 x hx
  intro l q e
  obtain ⟨h1, h2, _⟩ := h _ _ q e
  rcases h1 with h1 | ⟨h1, h3⟩
  · cases h1
  · have m := List.mem_filter.mp h1
    exact ⟨m.1, by simpa using m.2, h3, fun P hP e => h2 P (List.mem_filter.mpr ⟨hP, by simpa using e⟩)⟩
def BInv (L : Lay) (done : List (List Int)) (f : List BS) : Prop := ∀ k : Nat, f[k]? = bst L k done
theorem boe_len {L : Lay} {done : List (List Int)} {f : List BS} {P : List Int} (h : BInv L done f) (h1 : ∀ Q ∈ done, Q.length ≤ P.length) (h2 : P ≠ [] → ∃ Q ∈ done, Q.length + 1 = P.length) : f.length = P.length ∨ f.length = P.length + 1 := by
  have a : ¬ P.length + 1 < f.length := fun c => by
    have := h (P.length + 1)
    rw [List.getElem?_eq_getElem c] at this
    have s : (bst L (P.length + 1) done).isSome = true := by rw [← this]; rfl
    obtain ⟨Q, hQ, e⟩ := (bst_some L _ _).mp s
    have := h1 Q hQ
    omega
  have b : P.length ≤ f.length := by
    by_cases c : P = []
    · rw [c]; exact Nat.zero_le _
    · obtain ⟨Q, hQ, e⟩ := h2 c
      have s := (bst_some L Q.length done).mpr ⟨Q, hQ, rfl⟩
      rw [← h Q.length] at s
      have : ¬ f.length ≤ Q.length := fun z => by rw [List.getElem?_eq_none z] at s; cases s
      omega
  omega
theorem boe_step {L : Lay} {done : List (List Int)} {f : List BS} {P : List Int} (h : BInv L done f) (h1 : ∀ Q ∈ done, Q.length ≤ P.length) (h2 : P ≠ [] → ∃ Q ∈ done, Q.length + 1 = P.length) : BInv L (done ++ [P]) (boeS L f P) := by
  intro k
  rw [bst_snoc]
  unfold boeS
  rcases boe_len h h1 h2 with e | e
  · rw [if_pos e.symm]
    by_cases c : P.length = k
    · rw [if_pos c]
      have : f[k]? = none := List.getElem?_eq_none (by omega)
      rw [← h k, this, List.getElem?_append_right (by omega)]
      have : k - f.length = 0 := by omega
      rw [this]; rfl
    · rw [if_neg c, ← h k]
      by_cases c2 : k < f.length
      · rw [List.getElem?_append_left c2]
      · rw [List.getElem?_append_right (by omega), List.getElem?_eq_none (l := f) (by omega), List.getElem?_eq_none (by simp; omega)]
  · rw [if_neg (by omega)]
    have hl : f.getLast? = f[P.length]? := by rw [List.getLast?_eq_getElem?, e]; rfl
    have hk := h P.length
    have hs : ∃ q, f[P.length]? = some q := ⟨f[P.length]'(by omega), List.getElem?_eq_getElem (by omega)⟩
    obtain ⟨q, hq⟩ := hs
    rw [hl, hq]
    simp only [Option.map_some, Option.getD_some]
    rw [hq] at hk
    have i : f.length - 1 = P.length := by omega
    rw [i]
    by_cases c : P.length = k
    · subst c
      rw [if_pos rfl, ← hk]
      unfold upd
      dsimp only
      split
      · rw [List.getElem?_set_self (by omega)]
      · exact hq
    · rw [if_neg c, ← h k]
      split
      · rw [List.getElem?_set_ne c]
      · rfl
def boe (L : Lay) (S : List Int) : List BS := (subsF (fre L.c S)).foldl (boeS L) []
theorem leP_len {a b : List Int} (h : leP a b = true) : a.length ≤ b.length := by
  rw [leP_eq] at h
  split at h
  · omega
  · simp at h; omega
theorem subsF_pw (items : List Int) : (subsF items).Pairwise fun a b => a.length ≤ b.length :=
  (List.pairwise_mergeSort leP_trans leP_total _).imp leP_len
/-- what stands ahead of a set -/
theorem subs_ahead {items : List Int} {done rem : List (List Int)} {P : List Int} (h : subsF items = done ++ P :: rem) : (∀ Q ∈ done, Q.length ≤ P.length) ∧ (P ≠ [] → ∃ Q ∈ done, Q.length + 1 = P.length) := by
  have pw := subsF_pw items
  rw [h, List.pairwise_append] at pw
  obtain ⟨p1, p2, p3⟩ := pw
  refine ⟨fun Q hQ => p3 Q hQ P (List.mem_cons_self ..), fun hn => ?_⟩
  have hP : P.Sublist items := mem_subsF.mp (by rw [h]; simp)
  have ht : P.tail ∈ subsF items := mem_subsF.mpr ((List.tail_sublist P).trans hP)
  have hl : P.tail.length + 1 = P.length := by
    have := List.length_pos_iff.mpr hn
    rw [List.length_tail]; omega
  rw [h, List.mem_append, List.mem_cons] at ht
  rcases ht with ht | ht | ht
  · exact ⟨_, ht, hl⟩
  · rw [ht] at hl; omega
  · have := (List.pairwise_cons.mp p2).1 _ ht
    omega
theorem boe_inv (L : Lay) (S : List Int) : BInv L (subsF (fre L.c S)) (boe L S) := by
  have h : ∀ (rem done : List (List Int)) (f : List BS), subsF (fre L.c S) = done ++ rem → BInv L done f → BInv L (subsF (fre L.c S)) (rem.foldl (boeS L) f) := by
    intro rem
    induction rem with
    | nil => intro done f e i; rw [e, List.append_nil]; exact i
    | cons P rem ih =>
      intro done f e i
      obtain ⟨a, b⟩ := subs_ahead e
      rw [List.foldl_cons]
      exact ih (done ++ [P]) _ (by rw [e]; simp) (boe_step i a b)
  exact h _ [] [] rfl fun k => by simp [bst]
def eBs (q : BS) : D := .tuple [.int q.1, eT q.2]
def I_boe (L : Lay) (S : List Int) (rem : List (List Int)) (ρ : En) : Prop := ∃ (done : List (List Int)) (f : List BS) (s3 s4 : Sl), ρ = [.v (eL L), .v (eT S), .ow false (.l (f.map eBs)), s3, s4] ∧ Frs (some s3) = true ∧ Frs (some s4) = true ∧ subsF (fre L.c S) = done ++ rem ∧ BInv L done f ∧ rem.foldl (boeS L) f = boe L S
theorem ix_lastB {f : List BS} (h : f ≠ []) : ∃ q, f.getLast? = some q ∧ ixD (.list (f.map eBs)) (.int (-1)) = some (eBs q) := by
  refine ⟨f.getLast h, List.getLast?_eq_some_getLast h, ?_⟩
  rw [ix_last _ (by simpa using h), List.getLast_map]
theorem put_lastB {f : List BS} (h : f ≠ []) (q : BS) : putC (.l (f.map eBs)) (.int (-1)) (eBs q) = some (.l ((f.set (f.length - 1) q).map eBs)) := by
  have hl : 0 < f.length := List.length_pos_iff.mpr h
  show (ixN (f.map eBs).length (-1)).map (fun j => C.l ((f.map eBs).set j (eBs q))) = _
  have : ixN (f.map eBs).length (-1) = some (f.length - 1) := by
    unfold ixN
    rw [if_neg (by omega), List.length_map, if_pos (by omega)]
    congr 1; omega
  rw [this, Option.map_some, List.map_set]
theorem boe_ok (n : Nat) {L : Lay} (hL : WL L) (S : List Int) : sem T (n+3) 15 [eL L, eT S] = .ret (.nw (.l ((boe L S).map eBs))) [] := by
  have c0 := hL.c0
  have c1 := hL.c1
  have e0 : ixD (eL L) (.int 0) = some (.int L.c) := by simp [eL]
  have fo := free_ok n S c0 c1
  have sl := subsF_len _ (fre_len S c0 c1)
  rw [sem_at (fd := a_best_of_each) rfl]
  show outF a_best_of_each (evS (sem T (n+2)) a_best_of_each.body [.v (eL L), .v (eT S), .un, .un, .un]) = _
  unfold a_best_of_each
  dsimp only
  rw [seq_nx (ρ' := [.v (eL L), .v (eT S), .ow false (.l []), .un, .un]) (by simp [setS_eq, sizeLine]), s_seq]
  refine for_k (fun x => outF _ x = .ret (.nw (.l ((boe L S).map eBs))) []) (subsF (fre L.c S)) eT (I_boe L S) (by simp [e0, fo]) ⟨[], [], .un, .un, rfl, rfl, rfl, rfl, (fun k => by simp [bst]), rfl⟩ ?_ ?_
  · rintro P rem ρ ⟨done, f, s3, s4, rfl, h3, h4, hd, hi, hf⟩
    obtain ⟨a1, a2⟩ := subs_ahead hd
    have hlen := boe_len hi a1 a2
    have st := boe_step hi a1 a2
    have fb := ok_freed_by (n+1) L P (lay_small (lay_ok hL))
    have dl : done.length < 1024 := by have := congrArg List.length hd; rw [List.length_append, List.length_cons] at this; omega
    have hv : VS L.c P := fre_vs (by rw [hd]; simp)
    have el : biD .len [eT P] = some (.v (.int P.length)) := by unfold eT; simp
    refine ⟨[.v (eL L), .v (eT S), .ow false (.l (f.map eBs)), .v (eT P), s4], by simp [asg, setS_eq, h3], ?_⟩
    refine ⟨[.v (eL L), .v (eT S), .ow false (.l ((boeS L f P).map eBs)), .v (eT P), .v (.int (frd P L.rows))], ?_, done ++ [P], boeS L f P, _, _, rfl, rfl, rfl, by rw [hd]; simp, st, by rw [← hf]; rfl⟩
    refine go_seq (ρ' := [.v (eL L), .v (eT S), .ow false (.l (f.map eBs)), .v (eT P), .v (.int (frd P L.rows))]) (by simp [fb, setS_eq, h4]) ?_
    have fl : f.length ≤ 100 := by
      have : P.length ≤ 10 := Nat.le_trans (mem_subsF.mp (by rw [hd]; simp : P ∈ subsF (fre L.c S))).length_le (fre_len S c0 c1)
      omega
    have hs : f.length < sizeLine := by unfold sizeLine; omega
    have nb : PyData.tuple [.int (frd P L.rows), eT P] = eBs (frd P L.rows, P) := rfl
    unfold boeS
    by_cases c : P.length = f.length
    · rw [if_pos c]
      simp [el, c, hs, nb]
    · rw [if_neg c]
      have fne : f ≠ [] := fun z => by have := congrArg List.length z; rw [List.length_nil] at this; omega
      obtain ⟨q, q1, q2⟩ := ix_lastB fne
      have q3 : ixD (eBs q) (.int 0) = some (.int q.1) := by unfold eBs; simp
      have q4 := put_lastB fne (frd P L.rows, P)
      have c' : ¬ ((P.length : Int) = (f.length : Int)) := by omega
      rw [q1]
      simp only [Option.map_some, Option.getD_some]
      by_cases z : q.1 < frd P L.rows
      · rw [if_pos z]
        simp [el, c', q2, q3, z, nb, q4]
      · rw [if_neg z]
        simp [el, c', q2, q3, z]
  · rintro ρ' ⟨done, f, s3, s4, rfl, h3, h4, hd, hi, hf⟩
    have hf : f = boe L S := hf
    rw [sqF_nx, hf]
    simp [outF_rt]
end Tx

namespace Tx
open PySem PySem.Spec L2 Sn Mx
def hid (L O : Lay) : List (List Int) := (subsF (rngI 0 L.c)).filter fun P => decide (red L P = O)
def hits0 (L : Lay) (a : Int) : List (List Int) := (subsF (rngI 0 L.c)).filter fun P => decide (frd P L.rows = a)
theorem rng_vs {c : Int} {P : List Int} (h : P ∈ subsF (rngI 0 c)) : VS c P := sub_vs (mem_subsF.mp h)
theorem vs_sub {c : Int} {S : List Int} (h : VS c S) : S.Sublist (rngI 0 c) := by
  have e1 : (rngI 0 c).filter (fun p => decide (p ∈ S)) = S := by
    refine asc_ext ((rngI_asc _ _).filter _) h.srt fun x => ?_
    rw [List.mem_filter, decide_eq_true_eq, mem_rngI]
    exact ⟨fun h => h.2, fun hx => ⟨h.mem x hx, hx⟩⟩
  rw [← e1]
  exact List.filter_sublist
def I_hid (L O : Lay) (rem : List (List Int)) (ρ : En) : Prop := ∃ done s3, ρ = [.v (eL L), .v (eL O), .ow false (.l ((done.filter fun P => decide (red L P = O)).map eT)), s3] ∧ Frs (some s3) = true ∧ done ++ rem = subsF (rngI 0 L.c)
theorem hidden_ok (n : Nat) {L O : Lay} (hL : WL L) (hO : WL O) : sem T (n+5) 126 [eL L, eL O] = .ret (.nw (.l ((srtS (hid L O)).map eT))) [] := by
  have c0 := hL.c0
  have c1 := hL.c1
  have hlen := rng_len c0
  have sl := subsF_len (rngI 0 L.c) (by omega)
  rw [sem_at (fd := a_hidden_deletions) rfl]
  show outF a_hidden_deletions (evS (sem T (n+4)) a_hidden_deletions.body [.v (eL L), .v (eL O), .un, .un]) = _
  unfold a_hidden_deletions
  dsimp only
  have e0 : ixD (eL L) (.int 0) = some (.int L.c) := by simp [eL]
  have e1 : ixD (eL O) (.int 0) = some (.int O.c) := by simp [eL]
  have r1 := ok_require_layout n L (lay_ok hL)
  have r2 := ok_require_layout n O (lay_ok hO)
  have rk := rngOk_k (a := 0) (b := L.c) (by omega) (by omega) (by omega) (by omega)
  have as := all_sets_ok (n+3) (rngI 0 L.c) (by omega)
  rw [seq_nx (ρ' := [.v (eL L), .v (eL O), .un, .un]) (by simp [r1]), seq_nx (ρ' := [.v (eL L), .v (eL O), .un, .un]) (by simp [r2]), seq_nx (ρ' := [.v (eL L), .v (eL O), .ow false (.l []), .un]) (by simp [setS_eq]), s_seq]
  refine for_k (fun x => outF _ x = _) (subsF (rngI 0 L.c)) eT (I_hid L O) (by simp [e0, rk, rngD_eq, as]) ⟨[], .un, rfl, rfl, rfl⟩ ?_ ?_
  · rintro P rem ρ ⟨done, s3, rfl, h3, hd⟩
    refine ⟨_, by simp [asg, setS_eq, h3] <;> rfl, ?_⟩
    have hP : VS L.c P := rng_vs (by rw [← hd]; simp)
    have rd := red_len c0 hP
    have re : sem T (n+4) 9 [eL L, eT P] = .ret (.v (eL (red L P))) [] := ok_reduced (n+3) L P ⟨c0, by omega⟩ hL.good hL.len
    have ln : biD .len [eT P] = some (.v (.int P.length)) := by unfold eT; simp
    have hs : (done.filter fun P => decide (red L P = O)).length < sizeLine := by
      have h1 := List.length_filter_le (fun P => decide (red L P = O)) done
      have h2 : done.length ≤ (subsF (rngI 0 L.c)).length := by rw [← hd, List.length_append]; omega
      unfold sizeLine; omega
    refine ⟨[.v (eL L), .v (eL O), .ow false (.l (((done ++ [P]).filter fun P => decide (red L P = O)).map eT)), .v (eT P)], ?_, done ++ [P], _, rfl, rfl, by rw [← hd]; simp⟩
    by_cases q : red L P = O
    · have q1 : L.c - P.length = O.c := by rw [← rd, ← q]; rfl
      have e2 : (done ++ [P]).filter (fun P => decide (red L P = O)) = done.filter (fun P => decide (red L P = O)) ++ [P] := by rw [List.filter_append]; simp [q]
      have eq : cmpD .eq (eL (red L P)) (eL O) = some true := by rw [eq_eL, decide_eq_true q]
      rw [e2]
      simp [e0, e1, ln, q1, re, eq, hs]
    · have e2 : (done ++ [P]).filter (fun P => decide (red L P = O)) = done.filter (fun P => decide (red L P = O)) := by rw [List.filter_append]; simp [q]
      have eq : cmpD .eq (eL (red L P)) (eL O) = some false := by rw [eq_eL, decide_eq_false q]
      rw [e2]
      by_cases q1 : L.c - P.length = O.c
      · simp [e0, e1, ln, q1, re, eq]
      · simp [e0, e1, ln, q1]
  · rintro ρ' ⟨done, s3, rfl, h3, hd⟩
    rw [List.append_nil] at hd
    subst hd
    have st := sort_eT (subsF_ok (rngI 0 L.c) fun P => decide (red L P = O))
    rw [sqF_nx]
    simp only [s_seq, s_ret, e_sorted, e_var, List.getElem?_cons_succ, List.getElem?_cons_zero, gV_ow, bnd_ok, opr_sl]
    rw [srtR_l (f := false) (xs := ((subsF (rngI 0 L.c)).filter fun P => decide (red L P = O)).map eT) rfl, st]
    simp [hid]
theorem sets_ok (n : Nat) {L : Lay} (hL : WL L) (h8 : L.c ≤ 8) {a : Int} (ha : isA a) : sem T (n+5) 127 [eL L, .int a] = .ret (.nw (.l ((srtS (hits0 L a)).map eT))) [] := by
  have c0 := hL.c0
  have c1 := hL.c1
  have hlen := rng_len c0
  rw [sem_at (fd := a_sets_that_free) rfl]
  show outF a_sets_that_free (evS (sem T (n+4)) a_sets_that_free.body [.v (eL L), .v (.int a), .un]) = _
  unfold a_sets_that_free
  dsimp only
  have e0 : ixD (eL L) (.int 0) = some (.int L.c) := by simp [eL]
  have r1 := ok_require_layout n L (lay_ok hL)
  have r2 := amount_any (n+2) (d := .int a) rfl
  obtain ⟨q0, q1⟩ := ha
  rw [isI_int, show inB a 0 1000000000000000 = true by unfold inB; simp; omega, if_pos rfl] at r2
  have rk := rngOk_k (a := 0) (b := L.c) (by omega) (by omega) (by omega) (by omega)
  have as := all_sets_ok (n+3) (rngI 0 L.c) (by omega)
  have h9 : ¬ (8 < L.c) := by omega
  rw [seq_nx (ρ' := [.v (eL L), .v (.int a), .un]) (by simp [r1]), seq_nx (ρ' := [.v (eL L), .v (.int a), .un]) (by simp [r2]), seq_nx (ρ' := [.v (eL L), .v (.int a), .un]) (by simp [e0, h9]), s_seq, s_ret, e_sorted,
    lc_map (subsF (rngI 0 L.c)) eT (fun P => decide (frd P L.rows = a)) eT]
  · have st := sort_eT (subsF_ok (rngI 0 L.c) fun P => decide (frd P L.rows = a))
    simp only [bnd_ok, opr_nw]
    rw [srtR_v, st]
    simp [hits0]
  · simp [e0, rk, rngD_eq, as]
  · simp [freeE_cons]
  · intro P hP
    have f := ok_freed_by (n+3) L P (lay_small (lay_ok hL))
    exact ⟨_, by simp [asg, wipeE, setS_eq]; rfl, by simp [wipeE], by simp [f], fun _ => by simp⟩
theorem wl_nil {c : Int} (h0 : 0 ≤ c) (h1 : c ≤ 10) : WL ⟨c, []⟩ := ⟨h0, h1, (fun _ h => by cases h), (fun _ h => by cases h), List.Pairwise.nil, Nat.zero_le _, by show (0 : Int) ≤ _; omega⟩
theorem enm_many : enm "TooMany" = some "many" := by decide +kernel
theorem out_num (n : Nat) {L : Lay} (hL : WL L) {d : D} (h : nDict d = true) (hb : isI d 0 1000000000000000 = false) : sem T (n+6) 128 [eL L, d] = .ret (.v (.str "number")) [] := by
  have f : sem T (n+5) 127 [eL L, d] = .ex "InvalidNumber" := by
    rw [sem_at (fd := a_sets_that_free) rfl]
    have r := amount_any (n+2) h
    rw [hb] at r
    simp [runF, startE, a_sets_that_free, ok_require_layout _ L (lay_ok hL), r]
  rw [sem_at (fd := a__law_outcome_k31) rfl]
  simp [runF, startE, a__law_outcome_k31, f, tryF_ex enm_num]
theorem out_many (n : Nat) {L : Lay} (hL : WL L) (h8 : 8 < L.c) : sem T (n+6) 128 [eL L, .int 0] = .ret (.v (.str "many")) [] := by
  have f : sem T (n+5) 127 [eL L, .int 0] = .ex "TooMany" := by
    rw [sem_at (fd := a_sets_that_free) rfl]
    have e0 : ixD (eL L) (.int 0) = some (.int L.c) := by simp [eL]
    have r := amount_any (n+2) (d := .int 0) rfl
    rw [show isI (.int 0) 0 1000000000000000 = true by decide, if_pos rfl] at r
    simp [runF, startE, a_sets_that_free, ok_require_layout _ L (lay_ok hL), r, e0, h8]
  rw [sem_at (fd := a__law_outcome_k31) rfl]
  simp [runF, startE, a__law_outcome_k31, f, tryF_ex enm_many]
theorem out_fine (n : Nat) {L : Lay} (hL : WL L) (h8 : L.c ≤ 8) : sem T (n+6) 128 [eL L, .int 0] = .ret (.v (.str "fine")) [] := by
  have f := sets_ok n hL h8 (a := 0) ⟨by omega, by omega⟩
  rw [sem_at (fd := a__law_outcome_k31) rfl]
  simp [runF, startE, a__law_outcome_k31, f]
end Tx

namespace Tx
open PySem PySem.Spec L2 Sn Mx
theorem leI (a b : Int) : PySem.W.dataLe false id (.int a) (.int b) = decide (a ≤ b) := by
  show (!PySem.W.dataLt (.int b) (.int a)) = _
  have h := PySem.W.DatumOrd.lt_eq b a
  have e : ∀ k : Int, PySem.W.Datum.toD k = PyData.int k := fun _ => rfl
  rw [e, e] at h
  rw [h]
  show (!decide (b < a)) = _
  by_cases c : b < a
  · rw [decide_eq_true c, decide_eq_false (by omega)]; rfl
  · rw [decide_eq_false c, decide_eq_true (by omega)]; rfl
theorem mem_srtI {l : List Int} {x : Int} : x ∈ srtI l ↔ x ∈ l := (List.mergeSort_perm l _).mem_iff
theorem len_srtI (l : List Int) : (srtI l).length = l.length := List.length_mergeSort l
theorem srtI_asc {l : List Int} (h : l.Nodup) : (srtI l).Pairwise fun a b => a < b := by
  have h1 : (srtI l).Pairwise fun a b => PySem.W.dataLe false id (.int a) (.int b) = true :=
    List.pairwise_mergeSort (le := fun a b : Int => PySem.W.dataLe false id (.int a) (.int b)) (fun a b c h1 h2 => by rw [leI, decide_eq_true_eq] at *; omega) (fun a b => by rw [leI, leI, Bool.or_eq_true, decide_eq_true_eq, decide_eq_true_eq]; omega) l
  have h2 : (srtI l).Nodup := (List.mergeSort_perm l _).nodup_iff.mpr h
  exact (h1.and h2).imp fun {a b} ⟨p, q⟩ => by rw [leI, decide_eq_true_eq] at p; omega
theorem frd_same {S U : List Int} (h : ∀ p, p ∈ S ↔ p ∈ U) (rows : List Rw) : frd S rows = frd U rows := by
  unfold frd
  congr 1
  refine List.map_congr_left fun r _ => ?_
  have : gone S r = gone U r := by
    unfold gone
    congr 1
    funext p
    exact decide_eq_decide.mpr (h p)
  rw [this]
theorem grd_vs {L : Lay} (h0 : 0 ≤ L.c) : ∀ j : Nat, (j : Int) ≤ L.c → (∀ x ∈ grd L j, 0 ≤ x ∧ x < L.c) ∧ (grd L j).Nodup ∧ (grd L j).length = j
  | 0, _ => ⟨(fun x hx => by cases hx), List.nodup_nil, rfl⟩
  | j + 1, hj => by
    obtain ⟨i1, i2, i3⟩ := grd_vs h0 j (by omega)
    have hl := grd_left h0 j (by omega)
    have hne : lft L (grd L j) ≠ [] := fun e => by rw [e] at hl; simp at hl; omega
    obtain ⟨a, r, p, q1, q2, q3, q4⟩ := gp_at hne
    have e : grd L (j + 1) = grd L j ++ [p] := by rw [grd, q2]
    have hp : p ∈ lft L (grd L j) := List.mem_of_getElem? q3
    unfold lft at hp
    rw [List.mem_filter, mem_rngI] at hp
    have hn : p ∉ grd L j := by simpa using hp.2
    rw [e]
    refine ⟨fun x hx => ?_, ?_, ?_⟩
    · rcases List.mem_append.mp hx with hx | hx
      · exact i1 x hx
      · rw [List.mem_singleton.mp hx]; exact hp.1
    · rw [List.nodup_append]
      exact ⟨i2, by simp, fun a ha b hb => by rw [List.mem_singleton.mp hb]; exact fun z => hn (z ▸ ha)⟩
    · rw [List.length_append, i3]; rfl
def bset (L : Lay) (k : Nat) (S : List Int) : D := match (boe L S)[k]? with
  | some q => eT q.2
  | none => .none
theorem best_ok (n : Nat) {L : Lay} (hL : WL L) {S : List Int} (hS : VS L.c S) {K : Int} (h0 : 0 ≤ K) (h1 : K ≤ 10) : sem T (n+5) 87 [eL L, .int K, eT S] = .ret (.v (bset L K.toNat S)) [] := by
  have c0 := hL.c0
  have e0 : ixD (eL L) (.int 0) = some (.int L.c) := by simp [eL]
  have r1 := ok_require_layout n L (lay_ok hL)
  have r2 := number_ok (n+2) (k := K) h0 h1
  have r3 := ok_require_set (n+2) L.c S (set_ok hS)
  have r4 := boe_ok (n+1) hL S
  obtain ⟨k, rfl⟩ : ∃ k : Nat, K = k := ⟨K.toNat, by omega⟩
  have ek : ((k : Int)).toNat = k := by omega
  rw [ek]
  generalize hZ : (k : Int) = Z at r2
  rw [sem_at (fd := a_best_set) rfl]
  show outF a_best_set (evS (sem T (n+4)) a_best_set.body [.v (eL L), .v (.int Z), .v (eT S), .un]) = _
  unfold a_best_set
  dsimp only
  rw [seq_nx (ρ' := [.v (eL L), .v (.int Z), .v (eT S), .un]) (by simp [r1]), seq_nx (ρ' := [.v (eL L), .v (.int Z), .v (eT S), .un]) (by simp [r2]), seq_nx (ρ' := [.v (eL L), .v (.int Z), .v (eT S), .un]) (by simp [r3, e0]),
    seq_nx (ρ' := [.v (eL L), .v (.int Z), .v (eT S), .ow false (.l ((boe L S).map eBs))]) (by simp [r4, setS_eq])]
  unfold bset
  by_cases c : k < (boe L S).length
  · have c' : Z < ((boe L S).length : Int) := by omega
    have g : ixD (.list ((boe L S).map eBs)) (.int Z) = some (eBs (boe L S)[k]) := by
      rw [← hZ]
      show atI _ (k : Int) = _
      rw [atI_nat _ _ (by rw [List.length_map]; exact c), List.getElem_map]
    have g2 : ixD (eBs (boe L S)[k]) (.int 1) = some (eT (boe L S)[k].2) := by unfold eBs; simp
    rw [List.getElem?_eq_getElem c]
    simp [c', g, g2]
  · have c' : ¬ Z < ((boe L S).length : Int) := by omega
    rw [List.getElem?_eq_none (by omega)]
    simp [c']
/-- without protected ones: there is a best set, and no set with as many frees more -/
theorem bset_top {L : Lay} (h0 : 0 ≤ L.c) {k : Nat} (hk : (k : Int) ≤ L.c) : ∃ P, bset L k [] = eT P ∧ VS L.c P ∧ ∀ Q, VS L.c Q → Q.length = k → frd Q L.rows ≤ frd P L.rows := by
  have hf : fre L.c [] = rngI 0 L.c := List.filter_eq_self.mpr (by simp)
  have hi := boe_inv L [] k
  have hs : (bst L k (subsF (fre L.c []))).isSome = true := (bst_some L k _).mpr ⟨rngI 0 k, mem_subsF.mpr (by
    rw [hf]
    have e : rngI 0 L.c = rngI 0 (k : Int) ++ rngI k L.c := by
      refine asc_ext (rngI_asc _ _) ?_ fun x => ?_
      · rw [List.pairwise_append]
        exact ⟨rngI_asc _ _, rngI_asc _ _, fun a ha b hb => by rw [mem_rngI] at ha hb; omega⟩
      · rw [List.mem_append, mem_rngI, mem_rngI, mem_rngI]; omega
    rw [e]
    exact List.sublist_append_left ..), by rw [rng_length]; omega⟩
  obtain ⟨q, hq⟩ := Option.isSome_iff_exists.mp hs
  obtain ⟨b1, b2, b3, b4⟩ := bst_spec L k _ q hq
  rw [hq] at hi
  refine ⟨q.2, by unfold bset; rw [hi], fre_vs b1, fun Q hQ hl => ?_⟩
  rw [← b3]
  exact b4 Q (mem_subsF.mpr (by rw [hf]; exact vs_sub hQ)) hl
end Tx

namespace Tx
open PySem PySem.Spec L2 Sn Mx
def lx14 : Lay := ⟨3, [(0, 1, 10), (1, 1, 4), (1, 3, 7), (2, 2, 5), (3, 3, 2)]⟩
theorem ne_eT (l m : List Int) : cmpD .ne (eT l) (eT m) = some (!decide (l = m)) := ne_intsT l m
theorem nums_ok (n : Nat) {L : Lay} (hL : WL L) {a0 a1 a2 a3 s5 s6 : Sl} (h5 : Frs (some s5) = true) (h6 : Frs (some s6) = true) : ∃ s5' s6', Frs (some s5') = true ∧ Frs (some s6') = true ∧
    evS (sem T (n+5)) (.for_ (.nm 5) (.rng (.lit (.int 0)) (.lit (.int 11))) (.seq (.set 6 (.call 95 (.cons (.var 4) (.cons (.var 5) .nil))))
    (.seq (.ite (.cmp (.var 5) (.one .gt (.ix (.var 4) (.lit (.int 0))))) (.seq (.ite (.cmp (.var 6) (.one .notN (.lit .none))) (.seq (.ret (.lit (.bool false)))
    .skip) .skip)
    .skip) (.seq (.ite (.cmp (.var 6) (.one .ne (.call 96 (.cons (.var 4) (.cons (.var 5) .nil))))) (.seq (.ret (.lit (.bool false)))
    .skip) .skip)
    (.seq (.ite (.cmp (.call 52 (.cons (.var 4) (.cons (.var 6) .nil))) (.one .gt (.call 52 (.cons (.var 4) (.cons (.call 87 (.cons (.var 4) (.cons (.var 5) (.cons (.tup .nil) .nil)))) .nil))))) (.seq (.ret (.lit (.bool false)))
    .skip) .skip)
    .skip)))
    .skip))) [a0, a1, a2, a3, .v (eL L), s5, s6] = .ok .nx [a0, a1, a2, a3, .v (eL L), s5', s6'] := by
  have c0 := hL.c0
  have e0 : ixD (eL L) (.int 0) = some (.int L.c) := by simp [eL]
  obtain ⟨ρ', e, s5', s6', rfl, h5', h6', _⟩ := forL_run (Φ := sem T (n+5)) (tg := .nm 5) (it := .rng (.lit (.int 0)) (.lit (.int 11)))
    (b := .seq (.set 6 (.call 95 (.cons (.var 4) (.cons (.var 5) .nil))))
    (.seq (.ite (.cmp (.var 5) (.one .gt (.ix (.var 4) (.lit (.int 0))))) (.seq (.ite (.cmp (.var 6) (.one .notN (.lit .none))) (.seq (.ret (.lit (.bool false)))
    .skip) .skip)
    .skip) (.seq (.ite (.cmp (.var 6) (.one .ne (.call 96 (.cons (.var 4) (.cons (.var 5) .nil))))) (.seq (.ret (.lit (.bool false)))
    .skip) .skip)
    (.seq (.ite (.cmp (.call 52 (.cons (.var 4) (.cons (.var 6) .nil))) (.one .gt (.call 52 (.cons (.var 4) (.cons (.call 87 (.cons (.var 4) (.cons (.var 5) (.cons (.tup .nil) .nil)))) .nil))))) (.seq (.ret (.lit (.bool false)))
    .skip) .skip)
    .skip)))
    .skip)) (ρ := [a0, a1, a2, a3, .v (eL L), s5, s6]) (rngI 0 11) .int
    (fun rem ρ => ∃ s5 s6, ρ = [a0, a1, a2, a3, .v (eL L), s5, s6] ∧ Frs (some s5) = true ∧ Frs (some s6) = true ∧ ∀ k ∈ rem, 0 ≤ k ∧ k < 11)
    (by simp [rngD_eq]; exact rngOk_k (by omega) (by omega) (by omega) (by omega)) ⟨s5, s6, rfl, h5, h6, fun k hk => by have := mem_rngI.mp hk; omega⟩ (by
      rintro k rem ρ ⟨s5, s6, rfl, h5, h6, hk⟩
      obtain ⟨k0, k1⟩ := hk k (List.mem_cons_self ..)
      refine ⟨_, by simp [asg, setS_eq, h5] <;> rfl, ?_⟩
      by_cases c : L.c < k
      · have g := greedy_none n hL c (by omega)
        exact ⟨[a0, a1, a2, a3, .v (eL L), .v (.int k), .v .none], go_seq (ρ' := [a0, a1, a2, a3, .v (eL L), .v (.int k), .v .none]) (by simp [g, setS_eq, h6]) (go_seq (by simp [e0, c, show cmpD .notN .none .none = some false from rfl] <;> rfl) rfl), _, _, rfl, rfl, rfl, fun x hx => hk x (List.mem_cons_of_mem _ hx)⟩
      · have g := greedy_ok n hL k0 (by omega)
        have g2 := lawgreedy_ok (n+2) hL k0 (by omega)
        have g3 := lawfreed_ok (n+4) L (srtI (grd L k.toNat)) (lay_small (lay_ok hL))
        have g4 := best_ok n hL (S := []) ⟨(fun v hv => by cases hv), List.Pairwise.nil⟩ k0 (by omega)
        obtain ⟨P, p1, p2, p3⟩ := bset_top c0 (k := k.toNat) (by omega)
        obtain ⟨v1, v2, v3⟩ := grd_vs c0 k.toNat (by omega)
        have g5 := lawfreed_ok (n+4) L P (lay_small (lay_ok hL))
        have le := p3 (srtI (grd L k.toNat)) ⟨fun v hv => v1 v (mem_srtI.mp hv), srtI_asc v2⟩ (by rw [len_srtI, v3])
        have le' : ¬ frd P L.rows < frd (srtI (grd L k.toNat)) L.rows := by omega
        have nz : cmpD .ne (eT (srtI (grd L k.toNat))) (eT (srtI (grd L k.toNat))) = some false := ne_self (shp_eT _)
        rw [p1] at g4
        have et : PyData.tuple [] = eT [] := rfl
        exact ⟨[a0, a1, a2, a3, .v (eL L), .v (.int k), .v (eT (srtI (grd L k.toNat)))], go_seq (ρ' := [a0, a1, a2, a3, .v (eL L), .v (.int k), .v (eT (srtI (grd L k.toNat)))]) (by simp [g, setS_eq, h6]) (go_seq (by simp [e0, c, g2, nz, g3, g4, g5, le', et] <;> rfl) rfl), _, _, rfl, rfl, rfl, fun x hx => hk x (List.mem_cons_of_mem _ hx)⟩)
  exact ⟨s5', s6', h5', h6', e⟩
def I_k14 (ns : List Int) (rem : List Int) (ρ : En) : Prop := ∃ s1 s2 s3 s4 s5 s6, ρ = [.v (scr (ns.map .int)), s1, s2, s3, s4, s5, s6] ∧ (Frs (some s1) = true ∧ Frs (some s2) = true ∧ Frs (some s3) = true ∧ Frs (some s4) = true ∧ Frs (some s5) = true ∧ Frs (some s6) = true) ∧ ∀ k ∈ rem, 0 ≤ k ∧ k < 1000
theorem wl_of {L : Lay} (h : (decide (0 ≤ L.c) && (decide (L.c ≤ 10) && (L.rows.all (fun r => decide (0 ≤ r.1) && (decide (r.1 ≤ r.2.1) && (decide (r.2.1 ≤ L.c) && decide (1 ≤ r.2.2)))) && (adj (fun a b => kLt (key a) (key b)) L.rows && (decide (L.rows.length ≤ 100) && decide (tot L.rows ≤ 1000000000000)))))) = true) : WL L := by
  simp only [Bool.and_eq_true, decide_eq_true_eq, List.all_eq_true] at h
  obtain ⟨h1, h2, h3, h4, h5, h6⟩ := h
  exact ⟨h1, h2, fun r hr => ⟨(h3 r hr).1, (h3 r hr).2.1, (h3 r hr).2.2.1⟩, fun r hr => (h3 r hr).2.2.2, (adj_pw (lt := fun a b : Rw => kLt (key a) (key b)) (fun a b c h1 h2 => kLt_trans h1 h2) _).mp h4, by omega, by omega⟩
theorem lx_w : WL lx14 := wl_of (by decide +kernel)
theorem grd_x : srtI (grd lx14 2) = [1, 2] := by
  have e : grd lx14 2 = [2, 1] := by decide +kernel
  rw [e]
  exact asc_ext (srtI_asc (by decide)) (by decide) fun x => by rw [mem_srtI]; simp; omega
theorem math_k14 (ns : List Int) (hns : ns.length ≤ 63) : ∃ io, sem T 16 97 [scr (ns.map .int)] = .ret (.v (.bool true)) io := by
  rw [sem_at (fd := a_law_k14) rfl]
  show ∃ io, outF a_law_k14 (evS (sem T 15) a_law_k14.body [.v (scr (ns.map .int)), .un, .un, .un, .un, .un, .un]) = _
  unfold a_law_k14
  dsimp only
  rw [s_seq]
  obtain ⟨m, m0, m1, em⟩ := law_rng 15 ns (a := 6) (b := 30) (ρ := [.v (scr (ns.map .int)), .un, .un, .un, .un, .un, .un]) (by omega) (by omega) (by omega) rfl
  refine for_kE (fun x => ∃ io, outF _ x = .ret (.v (.bool true)) io) _ (rngI 0 m) .int (I_k14 ns) em ⟨_, _, _, _, _, _, rfl, ⟨rfl, rfl, rfl, rfl, rfl, rfl⟩, fun k hk => by have := mem_rngI.mp hk; omega⟩ ?_ ?_
  · rintro k rem ρ ⟨s1, s2, s3, s4, s5, s6, rfl, ⟨h1, h2, h3, h4, h5, h6⟩, hk⟩
    obtain ⟨k0, k1⟩ := hk k (List.mem_cons_self ..)
    refine ⟨_, by simp [asg, setS_eq, h1] <;> rfl, ?_⟩
    obtain ⟨j, rfl⟩ : ∃ j : Nat, k = j := ⟨k.toNat, by omega⟩
    obtain ⟨io1, hio1, e1⟩ := source_ok 14 ns j (by omega)
    obtain ⟨v, io2, v0, v1, hio2, e2⟩ := pick_ok 14 hio1 (size := 2) (by omega) (by omega)
    obtain ⟨most, q0, q1, e3⟩ : ∃ most : Int, 0 ≤ most ∧ most ≤ 10 ∧ ixD (.list [.int 5, .int 10]) (.int v) = some (.int most) := by
      have : v = 0 ∨ v = 1 := by omega
      rcases this with rfl | rfl
      · exact ⟨5, by omega, by omega, rfl⟩
      · exact ⟨10, by omega, by omega, rfl⟩
    obtain ⟨io3, L, hio3, hL, _, ht, e4⟩ := lay_drawn' 13 hio2 (most := most) q0 q1
    obtain ⟨s5', s6', h5', h6', e5⟩ := nums_ok 10 hL (a0 := .v (scr (ns.map .int))) (a1 := .v (.int j)) (a2 := s2) (a3 := .ow false (.l io3)) h5 h6
    exact ⟨_, go_seq (by simp [e1, setS_eq, h3] <;> rfl) (go_seq (by simp [e2, e3, e4, setS_eq, h4] <;> rfl) (go_seq e5 rfl)), _, _, _, _, _, _, rfl, ⟨rfl, h2, rfl, rfl, h5', h6'⟩, fun k hk' => hk k (List.mem_cons_of_mem _ hk')⟩
  · rintro ρ' ⟨s1, s2, s3, s4, s5, s6, rfl, ⟨h1, h2, _⟩, _⟩
    refine ⟨[], ?_⟩
    rw [sqF_nx]
    have ex : PyData.tuple [.int 3, .tuple [.tuple [.int 0, .int 1, .int 10], .tuple [.int 1, .int 1, .int 4], .tuple [.int 1, .int 3, .int 7], .tuple [.int 2, .int 2, .int 5], .tuple [.int 3, .int 3, .int 2]]] = eL lx14 := rfl
    have g := greedy_ok 10 lx_w (K := 2) (by omega) (by decide)
    rw [show ((2 : Int)).toNat = 2 from rfl, grd_x] at g
    have f1 := ok_freed 10 lx14 [1, 2] (lay_ok lx_w) (by decide)
    have f2 := ok_freed 10 lx14 [0, 1] (lay_ok lx_w) (by decide)
    rw [show frd [1, 2] lx14.rows = 9 by decide +kernel] at f1
    rw [show frd [0, 1] lx14.rows = 14 by decide +kernel] at f2
    have es : cmpD .eq (eT [1, 2]) (eT [1, 2]) = some true := eq_self' (shp_eT _)
    have t1 : PyData.tuple [.int 1, .int 2] = eT [1, 2] := rfl
    have t2 : PyData.tuple [.int 0, .int 1] = eT [0, 1] := rfl
    rw [seq_nx (ρ' := [.v (scr (ns.map .int)), s1, .v (eL lx14), s3, s4, s5, s6]) (by simp [setS_eq, h2, ex, sizeLine])]
    simp [g, f1, f2, es, t1, t2]
end Tx

namespace Tx
open PySem PySem.Spec PyProof.Rows Sn
def loose : List Str := (["SpaceError", "InvalidLayout", "InvalidSet", "InvalidNumber", "MAX_COUNT", "MAX_AMOUNT", "is_integer", "is_ascending", "is_row", "is_layout", "require_layout", "require_set", "freed_by", "freed", "all_sets", "free_sets", "best_of_each", "require_number", "best_set", "greedy_set"] : List Str) ++ (["_law_source", "_law_pick", "_law_layout", "_law_freed", "_law_merged", "_law_after", "_law_greedy"] : List Str)
abbrev RR : PySem.W.OpenRow := PySem.W.OpenLaw.row PySem.Challenge.rw_snapspace_k14_greedy_plans
abbrev hk : PySem.W.Hook := hookM 4 (faOf tb) (fnOfT Ds) (exB tb)
def ob (s : PySem.W.SharedT) : He.AlD × Bool := obsMG 4 (faOf tb) (fnOfT Ds) (exB tb) (HandSHeadRun.getT s)
theorem ob_eq (s : PySem.W.SharedT) : ob s = hk.obs s.abs := obsMG_eq (HandSHeadRun.getT_eq s)
theorem run (w : World) : HandSHeadRun.RunEq RR (PySem.W.view RR.prog [31]) hk ob 16000 loose w := by
  intro os
  kernel_rfl
end Tx
open PySem PySem.W PySem.Calls PyProof.Rows
theorem PySem.Challenge.cw_snapspace_k14_greedy_plans_holds : PySem.Challenge.rw_snapspace_k14_greedy_plans.Holds := by
  w_on; o_law
  refine HandSHeadRun.head_any (r := OpenLaw.row PySem.Challenge.rw_snapspace_k14_greedy_plans) (q := view (OpenLaw.row PySem.Challenge.rw_snapspace_k14_greedy_plans).prog [31]) (H := Tx.hk) (ob := Tx.ob) (M := 16000) (loose := Tx.loose) (d := HandSHeadRun.topDef (OpenLaw.row PySem.Challenge.rw_snapspace_k14_greedy_plans).prog 31) (kwd := []) Tx.ob_eq
    (by kernel_rfl) (fun s => by kernel_rfl) Tx.run (by kernel_rfl) (by kernel_rfl) (by kernel_rfl) (by rfl) (by first | assumption | decide +kernel) (by decide +kernel) ⟨rfl, rfl, rfl, rfl, rfl, by decide +kernel⟩ ?hw ?hc
  case hw => w_witness2
  case hc =>
    refine Sn.walkW (l := PySem.Challenge.rw_snapspace_k14_greedy_plans) (n := 63) (k := 16) (x := "script") rfl (by decide) (by kernel_rfl) ⟨rfl, by decide, by decide⟩ ?F
    intro w mg fa h Y G hmg0
    obtain ⟨K, KX, c⟩ := Y
    have hmg : mg ("law" : PySem.Str) = some (.ref fa) := by
      have e : (HandSHeadRun.topDef (OpenLaw.row PySem.Challenge.rw_snapspace_k14_greedy_plans).prog 31).name = ("law" : PySem.Str) := by kernel_rfl
      rw [← e]
      exact hmg0
    exact Sn.law_F (li := 97) (n := 63) (k := 16) KX G c Tx.ok Tx.bds (by decide +kernel) rfl rfl hmg (by decide) Tx.math_k14

